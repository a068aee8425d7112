/- Part 2 of the proof: the program logic and plain functions. Conditions: none. -/
import Derived.WalkKit
import Derived.OrdersHeld
import Derived.KernelRfl
set_option linter.all false
set_option maxRecDepth 100000
set_option maxHeartbeats 8000000
namespace Fw
open Go
abbrev br:=List<|Nat×Value
def lk:br→Nat→Option Value
 | [],_=>none
 | (k,v)::r,t=>bif Nat.beq k t then some v else lk r t
def lit {α:Type}:List α→Option (List α)
 | []=>some []
 | x::r=>match lit r with
  | none=>none
  | some r'=>some<|x::r'
theorem rj {α:Type}:∀{l l':List α},lit l=some l'→l'=l
 | [],l',h=>by simp[lit]at h;simp[h]
 | x::r,l',h=>by
  simp only[lit]at h;cases hr:lit r with
  | none=>simp[hr]at h
  | some r' =>
   simp[hr]at h;rw[←h,rj hr]
def nth {α:Type}:List α→Nat→Option α
 | [],_=>none
 | x::_,0=>some x
 | _::r,k+1=>nth r k
theorem ii {α:Type}:∀(l:List α) (k:Nat),nth l k=l[k]?
 | [],k=>by simp[nth]
 | x::r,0=>by simp[nth]
 | x::r,k+1=>by simp[nth,ii r k]
theorem Cn {a b:Nat}(h:a≠b):Nat.beq a b=false:=by
 cases e:Nat.beq a b
 ·rfl
 ·exact absurd (Nat.eq_of_beq_eq_true e) h
def od (L:br):Operand→Option Value
 | .tmp t=>lk L t
 | .const v=>some v
 | .global g=>some<|.pointer<|some ⟨g,0,none⟩
 | .func f=>some<|.func (.func f) #[] #[]
def lQ (L:br):List Operand→Option (List Value)
 | []=>some []
 | x::r=>match od L x with
  | none=>none
  | some v=>match lQ L r with
   | none=>none
   | some vs=>some<|v::vs
structure et (n:Nat) (L:br) (ds:List Deferred) (a:Act):Prop where
 size:a.tmps.size=n
 get:∀t v,lk L t=some v→a.tmps[t]? = some v
 defers:a.defers=ds
theorem et.eval {n L ds a x v}(h:et n L ds a)(hx:od L x=some v):a.eval x=v:=by
 cases x with
 | tmp t=>simp only[od]at hx;have:=h.get t v hx;simp[Act.eval,Array.getD_eq_getD_getElem?,this]
 | const c=>simpa [od,Act.eval] using hx
 | global g=>simpa [od,Act.eval] using hx
 | func f=>simpa [od,Act.eval] using hx
theorem et.uK {n L ds a}(h:et n L ds a):∀(xs:List Operand) (vs:List Value),lQ L xs=some vs→xs.map a.eval=vs
 | [],vs,hx=>by simp[lQ]at hx;simp[hx]
 | x::r,vs,hx=>by
  simp only[lQ]at hx;cases h1:od L x with
  | none=>simp[h1]at hx
  | some v =>
   simp only[h1]at hx;cases h2:lQ L r with
   | none=>simp[h2]at hx
   | some us =>
    simp only[h2,Option.some.injEq]at hx;subst hx;simp[h.eval h1,h.uK r us h2]
theorem et.put {n L ds a}(h:et n L ds a){d:Nat}(hd:Nat.blt d n=true)(v:Value):et n ((d,v)::L) ds (a.put (some d) v):=by
 have DS:d<n:=by simpa using hd
 refine⟨by simp[Act.put,h.size],?_,by simpa [Act.put] using h.defers⟩;intro t u hu;simp only[lk]at hu;simp only[Act.put];by_cases e:d=t
 ·subst e;have:Nat.beq d d=true:=by simp
  simp only[this,cond_true,Option.some.injEq]at hu;subst hu;simp[h.size,DS]
 ·have:Nat.beq d t=false:=Cn e;simp only[this,cond_false]at hu;have:=h.get t u hu;simp[e,this]
theorem et.R8 {n L ds a}(h:et n L ds a)(v:Value):et n L ds (a.put none v):=h
inductive Sub:br→br→Prop
 | nil {L}:Sub [] L
 | cons {t v r L} (h:lk L t=some v) (hr:Sub r L):Sub ((t,v)::r) L
theorem Sub.lk {M L}(h:Sub M L):∀t v,lk M t=some v→lk L t=some v:=by
 induction h with
 | nil=>intro t v h;simp[Fw.lk]at h
 | @cons t u r L h hr ih =>
  intro s v hv;simp only[Fw.lk]at hv;by_cases e:t=s
  ·subst e;have:Nat.beq t t=true:=by simp
   simp only[this,cond_true,Option.some.injEq]at hv;subst hv;exact h
  ·have:Nat.beq t s=false:=Cn e;simp only[this,cond_false]at hv;exact ih s v hv
theorem et.sub {n L M ds a}(h:et n L ds a)(hs:Sub M L):et n M ds a:=⟨h.size,fun t v hv=>h.get t v<|hs.lk t v hv,h.defers⟩
abbrev dp:=Exit→Act→World→Prop
def N (n:Nat)(Q:dp)(e:Exit)(L:br)(ds:List Deferred)(w:World):Prop:=∀a,et n L ds a→Q e a w
def W (P:Program)(n:Nat)(Q:dp)(c:Code)(L:br)(ds:List Deferred)(w:World):Prop:=∀a,et n L ds a→c.wp P Q a w
def R (P:Program)(n:Nat)(ops:Array Oper)(Q:dp)(l:List Oper)(L:br)(ds:List Deferred)(w:World):Prop:=∀a,et n L ds a→wpList P ops Q l a w
def K (P:Program)(c:Code)(Q:dp):dp:=Exit.then (fun a w=>c.wp P Q a w) Q
section ctl
variable {P:Program} {n:Nat} {Q:dp} {L:br} {ds:List Deferred} {w:World}
theorem ah {x y:Code}(h:W P n (K P y Q) x L ds w):W P n Q (.seq x y) L ds w:=fun a ha=>wp_seq<|h a ha
theorem ap (h:N n Q .normal L ds w):W P n Q .skip L ds w:=fun a ha=>wp_skip<|h a ha
theorem ag (h:N n Q .ret L ds w):W P n Q .ret L ds w:=fun a ha=>wp_ret<|h a ha
theorem bM {id:Nat}(h:N n Q (.exit id) L ds w):W P n Q (.exit id) L ds w:=fun a ha=>wp_exit<|h a ha
theorem aQ {id:Nat}{c:Code}(h:W P n (Exit.inBlock id Q) c L ds w):W P n Q (.block id c) L ds w:=fun a ha=>wp_block<|h a ha
theorem aL {id:Nat}{l:List Oper}(h:R P n l.toArray Q l L ds w):W P n Q (.region id l.toArray false) L ds w:=fun a ha=>wp_region_lit<|h a ha
theorem pK {c:Operand}{x y:Code}{b:Bool}(hc:od L c=some (.bool b))(ht:b=true→W P n Q x L ds w)(hf:b=false→W P n Q y L ds w) :
  W P n Q (.cond c x y) L ds w:=fun a ha=>wp_cond_split (ha.eval hc) (fun h=>ht h a ha)<|fun h=>hf h a ha
theorem bC {c:Operand}{x y:Code}(hc:od L c=some (.bool true))(ht:W P n Q x L ds w):W P n Q (.cond c x y) L ds w:=fun a ha=>wp_cond_true (ha.eval hc)<|ht a ha
theorem gf {c:Operand}{x y:Code}(hc:od L c=some (.bool false))(hf:W P n Q y L ds w):W P n Q (.cond c x y) L ds w:=fun a ha=>wp_cond_false (ha.eval hc)<|hf a ha
theorem ae {c:Code}(h:W P n Q c L ds w):N n (K P c Q) .normal L ds w:=h
theorem bK {c:Code}{i:Nat}(h:N n Q (.exit i) L ds w):N n (K P c Q) (.exit i) L ds w:=h
theorem ak {c:Code}(h:N n Q .ret L ds w):N n (K P c Q) .ret L ds w:=h
theorem ba {id:Nat}(h:N n Q .normal L ds w):N n (Exit.inBlock id Q) .normal L ds w:=h
theorem aM {id:Nat}(h:N n Q .ret L ds w):N n (Exit.inBlock id Q) .ret L ds w:=h
theorem bJ {id:Nat}(h:N n Q .normal L ds w):N n (Exit.inBlock id Q) (.exit id) L ds w:=fun a ha=>by simpa [Exit.inBlock] using h a ha
theorem acV {id i:Nat}(de:Nat.beq i id=false)(h:N n Q (.exit i) L ds w):N n (Exit.inBlock id Q) (.exit i) L ds w:=fun a ha=>by
 have:i≠id:=Nat.ne_of_beq_eq_false de;simpa [Exit.inBlock,this] using h a ha
def LP (n:Nat)(ds:List Deferred)(Lf:br)(J:br→World→Nat→Prop)(m:Nat)(Q:dp):dp :=
 Exit.then (fun a w=>∃M m',et n (M++Lf) ds a∧J M w m'∧m'<m) Q
theorem Sub.app {M M' L:br}(h:Sub M L)(k:Sub M' L):Sub (M++M') L:=by
 induction h with
 | nil=>exact k
 | cons h hr ih=>exact Sub.cons h<|ih k
theorem adm {c:Code}(Lf:br)(J:br→World→Nat→Prop)(M0:br)(m0:Nat)(hf:Sub Lf L)(hM:Sub M0 L)(h0:J M0 w m0)
  (round:∀M w m,J M w m→W P n (LP n ds Lf J m Q) c (M++Lf) ds w):W P n Q (.loop c) L ds w:=by
 intro a ha;have key : ∀ m M a w, J M w m → et n (M ++ Lf) ds a → (Code.loop c).wp P Q a w := by
  intro m M a w hI hF;have hex:∃m M,et n (M++Lf) ds a∧J M w m:=⟨m,M,hF,hI⟩;have least:∀a w,(∃m M,et n (M++Lf) ds a∧J M w m)→∃m,(∃M,et n (M++Lf) ds a∧J M w m)∧∀m',(∃M,et n (M++Lf) ds a∧J M w m')→m≤m':=by
   intro a w ⟨m,h⟩;induction m using Nat.strongRecOn with
   | _ m ih =>
    by_cases hc:∃m',m'<m∧∃M,et n (M++Lf) ds a∧J M w m'
    ·obtain⟨m',h1,h2⟩:=hc;exact ih m' h1 h2
    ·refine⟨m,h,fun m' h'=>?_⟩;rcases Nat.lt_or_ge m' m with h1|h1
     ·exact absurd ⟨m',h1,h'⟩ hc
     ·exact h1
  refine wp_loop (fun a w=>∃m M,et n (M++Lf) ds a∧J M w m) (fun a w=>Classical.epsilon (fun m=>(∃M,et n (M++Lf) ds a∧J M w m)∧∀m',(∃M,et n (M++Lf) ds a∧J M w m')→m≤m')) hex ?_;intro a w hex;obtain⟨⟨M,h1,h2⟩,_⟩:=Classical.epsilon_spec<|least a w hex;refine wp_mono (round M w _ h2 a h1) ?_;intro e a' w' hq;cases e with
  | normal =>
   obtain⟨M',m',g1,g2,g3⟩:=hq;refine⟨⟨m',M',g1,g2⟩,?_⟩;obtain⟨_,g4⟩:=Classical.epsilon_spec<|least a' w' ⟨m',M',g1,g2⟩;have:=g4 m' ⟨M',g1,g2⟩;omega
  | exit id=>exact hq
  | goto l=>exact hq
  | ret=>exact hq
  | panic ch=>exact hq
  | outgrown=>exact hq
 exact key m0 M0 a w h0<|ha.sub<|hM.app hf
theorem acX {Lf:br}{J:br→World→Nat→Prop}{m:Nat}{M:br}{m':Nat}(hJ:J M w m')(hM:Sub M L)(hf:Sub Lf L)(hm:m'<m):N n (LP n ds Lf J m Q) .normal L ds w :=
 fun _ ha=>⟨M,m',ha.sub<|hM.app hf,hJ,hm⟩
theorem bQ {Lf:br}{J:br→World→Nat→Prop}{m i:Nat}(h:N n Q (.exit i) L ds w):N n (LP n ds Lf J m Q) (.exit i) L ds w:=h
theorem cK {Lf:br}{J:br→World→Nat→Prop}{m:Nat}(h:N n Q .ret L ds w):N n (LP n ds Lf J m Q) .ret L ds w:=h
end ctl
def BJ:Nat→List Value→br
 | _,[]=>[]
 | k,v::r=>(k,v)::BJ (k+1) r
theorem Rh:∀(l:List Value) (k t:Nat) (v:Value),lk (BJ k l) t=some v→k≤t∧l[t-k]? = some v
 | [],k,t,v,h=>by simp[BJ,lk]at h
 | x::r,k,t,v,h=>by
  simp only[BJ,lk]at h;by_cases e:k=t
  ·subst e;have:Nat.beq k k=true:=by simp
   simp only[this,cond_true,Option.some.injEq]at h;simp[h]
  ·have:Nat.beq k t=false:=Cn e;simp only[this,cond_false]at h;obtain⟨h1,h2⟩:=Rh r (k+1) t v h;refine⟨by omega,?_⟩;rw[show t-k=(t-(k+1))+1 by omega];simpa using h2
theorem aO {P:Program}{f:FuncId}{fn:Func}{c:Code}{l:List Value}{w:World}{R:Ending→World→Prop}{n:Nat}
  (hf:P.funcs[f]? = some fn) (hb:fn.body=some c) (hn:fn.ntmps=n) (hl:Nat.ble l.length n=true)
  (h:W P n (bodyPost P fn R) c (BJ 0 l) [] w):Calls P f l.toArray w R:=by
 refine calls_of_wp hf hb<|h _ ⟨?_,?_,rfl⟩
 ·have:l.length≤n:=by simpa using hl
  simp[hn];omega
 ·intro t v hv;obtain⟨_,h2⟩:=Rh l 0 t v hv;have ef:t<l.length:=by
   have:=List.getElem?_eq_some_iff.1 h2;obtain⟨h,_⟩:=this;simpa using h
  simp only[Nat.sub_zero]at h2;rw[Array.getElem?_append_left<|by simpa using ef];simpa using h2
section cg
variable {P:Program} {fn:Func} {C:Ending→World→Prop} {n:Nat} {L:br} {w:World}
theorem gd {n L ds}{a:Act}{t:Nat}{v:Value}(h:et n L ds a)(hv:lk L t=some v):a.tmps.getD t undef=v:=by
 have:=h.get t v hv;simp[Array.getD_eq_getD_getElem?,this]
def RV (P:Program)(w:World)(L:br):List ResultVar→List Value→Prop
 | [],[]=>True
 | .tmp t::r,v::vs=>lk L t=some v∧RV P w L r vs
 | .cell t ty::r,v::vs=>(∃a,lk L t=some (.pointer<|some a)∧(loadVar ty a).run P w= .ok v w)∧RV P w L r vs
 | _,_=>False
def ud:List Value→Value
 | [v]=>v
 | vs=> .tuple vs.toArray
theorem Se {ds}{a:Act}(ha:et n L ds a):∀(rs:List ResultVar) (vs:List Value),RV P w L rs vs→(rs.mapM (fun
  | .tmp t=>pure<|a.tmps.getD t undef
  | .cell p t=>do loadVar t (←asAddr (a.tmps.getD p undef)):ResultVar→Sem Value)).run P w= .ok vs w
 | [],[],_=>by simp
 | .tmp t::r,v::vs,h=>by
  have h1:=gd ha h.1;have h2:=Se ha r vs h.2;simp only[Array.getD_eq_getD_getElem?]at h1 h2;simp only[List.mapM_cons,Sem.run_bind,Array.getD_eq_getD_getElem?,Sem.run_pure,Result.andThen_ok,h1,h2]
 | .cell t ty::r,v::vs,h=>by
  obtain⟨⟨p,hp,hl⟩,h2⟩:=h;have h1:=gd ha hp;have h2:=Se ha r vs h2;simp only[Array.getD_eq_getD_getElem?]at h1 h2;have e:asAddr (.pointer<|some p)=pure p:=rfl;simp only[List.mapM_cons,Sem.run_bind,Array.getD_eq_getD_getElem?,Sem.run_pure,Result.andThen_ok,h1,e,hl,h2]
 | [],_::_,h=>h.elim
 | .tmp _::_,[],h=>h.elim
 | .cell _ _::_,[],h=>h.elim
theorem Kg {ds}{a:Act}{rs:List ResultVar}{vs:List Value}(hr:fn.results=rs.toArray)(ha:et n L ds a)(hv:RV P w L rs vs):(results fn a.tmps).run P w= .ok (ud vs) w:=by
 have h:=Se ha rs vs hv;simp only[results,hr,List.mapM_toArray,Sem.run_bind,Sem.run_map,h,Result.andThen_ok,Sem.run_pure];refine(congrArg (fun r:Result (List Value)=>(r.andThen fun a w'=>Result.ok a.toArray w').andThen fun a w'=>Result.ok (if h:a.size=1 then a[0] else Value.tuple a) w') h).trans ?_;match vs with
 | []=>simp[ud]
 | [v]=>simp[ud]
 | v::u::r=>simp[ud]
theorem bn {rs:List ResultVar}{vs:List Value}(hr:fn.results=rs.toArray)(hv:RV P w L rs vs)(hR:C (.returned<|ud vs) w):N n (bodyPost P fn C) .ret L [] w :=
 fun _ ha=>⟨ha.defers,_,Kg hr ha hv,hR⟩
theorem qK {rs:List ResultVar}{vs:List Value}(hr:fn.results=rs.toArray)(hv:RV P w L rs vs)(hR:C (.returned<|ud vs) w):N n (bodyPost P fn C) .normal L [] w :=
 fun _ ha=>⟨ha.defers,_,Kg hr ha hv,hR⟩
end cg
section ops
variable {P:Program} {n:Nat} {ops:Array Oper} {Q:dp} {rest:List Oper} {L:br} {ds:List Deferred} {w:World}
variable {ty:TypeId} {ps:String} {af:Array Edge}
theorem aF (h:N n Q .normal L ds w):R P n ops Q [] L ds w:=fun a ha=>wpList_nil<|h a ha
theorem cP {d:Nat}{op:Op}{v:Value}{w':World}(hd:Nat.blt d n=true)
  (pn:∀a,et n L ds a→(execOp a.eval ⟨some d,op,ty,ps,af,none⟩).run P w= .ok (.value v) w')
  (next:R P n ops Q rest ((d,v)::L) ds w'):R P n ops Q (⟨some d,op,ty,ps,af,none⟩::rest) L ds w:=by
 intro a ha;refine wpList_plain rfl fun K hK=>?_;unfold Oper.wp;rw[pn a ha];exact hK _ _<|next _ (ha.put hd v)
theorem Hc {op:Op}{w':World}
  (pn:∀a,et n L ds a→(execOp a.eval ⟨none,op,ty,ps,af,none⟩).run P w= .ok .skip w')
  (next:R P n ops Q rest L ds w'):R P n ops Q (⟨none,op,ty,ps,af,none⟩::rest) L ds w:=by
 intro a ha;refine wpList_plain rfl fun K hK=>?_;unfold Oper.wp;rw[pn a ha];exact hK _ _<|next _ (ha.R8 _)
theorem Th {d:Option Nat}{op:Op}{i:Nat}{b:Bool}(hy:∀a,et n L ds a→yielded ops a.tmps i=some b)
  (h:R P n ops Q (⟨d,op,ty,ps,af,none⟩::rest) L ds w):R P n ops Q (⟨d,op,ty,ps,af,some (i,b)⟩::rest) L ds w:=by
 intro a ha;have h1:=h a ha;simp only[wpList]at h1 ⊢;have e1:Region.wanted ⟨d,op,ty,ps,af,some (i,b)⟩ (yielded ops a.tmps)=true:=by simp[Region.wanted,hy a ha]
 have e2:Region.wanted ⟨d,op,ty,ps,af,none⟩ (yielded ops a.tmps)=true:=by simp[Region.wanted]
 rw[if_pos e1];rw[if_pos e2]at h1;exact h1
theorem eZ {d:Nat}{op:Op}{i:Nat}{b:Bool}(hd:Nat.blt d n=true)(hy:∀a,et n L ds a→yielded ops a.tmps i≠some b)
  (h:R P n ops Q rest ((d,undef)::L) ds w):R P n ops Q (⟨some d,op,ty,ps,af,some (i,b)⟩::rest) L ds w:=by
 intro a ha;refine wpList_skip ?_<|h _<|ha.put hd _;have:=hy a ha;simp[Region.wanted,this]
def gs (l:List Oper)(i:Nat):Option Nat:=match nth l i with |some o=>o.dst|none=>none
theorem yl {l:List Oper}{i t:Nat}{b:Bool}(hi:gs l i=some t)(hv:lk L t=some (.bool b)):∀a,et n L ds a→yielded l.toArray a.tmps i=some b:=by
 intro a ha;have:=ha.get t _ hv;unfold gs at hi;rw[ii]at hi;unfold yielded;cases h:l[i]? with
 | none=>simp[h]at hi
 | some o=>simp[h]at hi;simp[h,hi,this]
theorem ab5 {l:List Oper}{i t:Nat}{b c:Bool}(hi:gs l i=some t)(hv:lk L t=some (.bool b))(de:(b==c)=false):∀a,et n L ds a→yielded l.toArray a.tmps i≠some c:=by
 intro a ha;rw[yl hi hv a ha];intro e;simp at e;subst e;simp at de
theorem cA {l:List Oper}{i t:Nat}{c:Bool}(hi:gs l i=some t)(hv:lk L t=some undef):∀a,et n L ds a→yielded l.toArray a.tmps i≠some c:=by
 intro a ha;have:=ha.get t _ hv;unfold gs at hi;rw[ii]at hi;unfold yielded;cases h:l[i]? with
 | none=>simp[h]at hi
 | some o=>simp[h]at hi;simp[h,hi,this,undef]
theorem et.same {a:Act}(ha:et n L ds a){t:Nat}{v:Value}(hv:lk L t=some v):et n ((t,v)::L) ds a:=by
 refine⟨ha.size,fun s u hu=>?_,ha.defers⟩;simp only[lk]at hu;by_cases e:t=s
 ·subst e;have:Nat.beq t t=true:=by simp
  simp only[this,cond_true,Option.some.injEq]at hu;subst hu;exact ha.get _ _ hv
 ·simp only[Cn e,cond_false]at hu;exact ha.get _ _ hu
theorem Tg {l:List Oper}{t:Nat}{b:Bool}(hv:lk L t=some (.bool b))(ht:b=true→R P n ops Q l ((t,.bool true)::L) ds w)(hf:b=false→R P n ops Q l ((t,.bool false)::L) ds w):R P n ops Q l L ds w:=by
 intro a ha;cases b with
 | true=>exact ht rfl a<|ha.same hv
 | false=>exact hf rfl a<|ha.same hv
theorem RQ {d:Nat}{x:Operand}{v:Value}(hd:Nat.blt d n=true)(hx:od L x=some v)(next:R P n ops Q rest ((d,v)::L) ds w) :
  R P n ops Q (⟨some d,.move x,ty,ps,af,none⟩::rest) L ds w :=
 cP hd (fun a ha=>by simp[execOp,ha.eval hx]) next
theorem Gc {d:Nat}{x:Operand}{v:Value}(hd:Nat.blt d n=true)(hx:od L x=some v)(next:R P n ops Q rest ((d,v)::L) ds w) :
  R P n ops Q (⟨some d,.assign x,ty,ps,af,none⟩::rest) L ds w :=
 cP hd (fun a ha=>by simp[execOp,ha.eval hx]) next
abbrev dH (x:Int):Prop:= -9223372036854775808≤x∧x≤9223372036854775807
theorem wrap_i64 {x:Int}(h:dH x):IntKind.i64.wrap x=x:=by
 unfold dH at h;simp only[IntKind.wrap,IntKind.bits,IntKind.signed];simp;split<;>omega
theorem atl {d:Nat}{x y:Operand}{t u:TypeId}{p q:Int}(hd:Nat.blt d n=true)(hx:od L x=some (.int .i64 p))(hy:od L y=some (.int .i64 q))(hr:dH (p+q))
  (next:R P n ops Q rest ((d,.int .i64<|p+q)::L) ds w):R P n ops Q (⟨some d,.binOp .add t x y u,ty,ps,af,none⟩::rest) L ds w :=
 cP hd (fun a ha=>by simp[execOp,ha.eval hx,ha.eval hy,binOp,Op.intArith,wrap_i64 hr,eqGuard]) next
theorem qo {d:Nat}{x y:Operand}{t u:TypeId}{p q:Int}(hd:Nat.blt d n=true)(hx:od L x=some (.int .i64 p))(hy:od L y=some (.int .i64 q))(hr:dH (p-q))
  (next:R P n ops Q rest ((d,.int .i64<|p-q)::L) ds w):R P n ops Q (⟨some d,.binOp .sub t x y u,ty,ps,af,none⟩::rest) L ds w :=
 cP hd (fun a ha=>by simp[execOp,ha.eval hx,ha.eval hy,binOp,Op.intArith,wrap_i64 hr,eqGuard]) next
theorem atL {d:Nat}{x y:Operand}{t u:TypeId}{p q:Int}(hd:Nat.blt d n=true)(hx:od L x=some (.int .i64 p))(hy:od L y=some (.int .i64 q))(hr:dH (p*q))
  (next:R P n ops Q rest ((d,.int .i64<|p*q)::L) ds w):R P n ops Q (⟨some d,.binOp .mul t x y u,ty,ps,af,none⟩::rest) L ds w :=
 cP hd (fun a ha=>by simp[execOp,ha.eval hx,ha.eval hy,binOp,Op.intArith,wrap_i64 hr,eqGuard]) next
theorem RR {d:Nat}{x y:Operand}{t u:TypeId}{p q:Int}(hd:Nat.blt d n=true)(hx:od L x=some (.int .i64 p))(hy:od L y=some (.int .i64 q))(hp:0≤p)(hq:0<q)(hr:p≤9223372036854775807)
  (next:R P n ops Q rest ((d,.int .i64<|p / q)::L) ds w):R P n ops Q (⟨some d,.binOp .quo t x y u,ty,ps,af,none⟩::rest) L ds w :=
 cP hd (fun a ha=>by
  have h1:p.tdiv q=p / q:=Int.tdiv_eq_ediv_of_nonneg hp;have h2:0≤p / q:=Int.ediv_nonneg hp (by omega);have h3:p / q≤p:=Int.ediv_le_self q hp;have h4:dH (p / q):=⟨by omega,by omega⟩;have h5:q≠0:=by omega
  simp[execOp,ha.eval hx,ha.eval hy,binOp,Op.intDiv,h1,wrap_i64 h4,eqGuard,h5]) next
theorem RS {d:Nat}{x y:Operand}{t u:TypeId}{k:IntKind}{p q:Int}(hd:Nat.blt d n=true)(hx:od L x=some (.int k p))(hy:od L y=some (.int k q))(hp:0≤p)(hq:0<q)
  (next:R P n ops Q rest ((d,.int k<|p % q)::L) ds w):R P n ops Q (⟨some d,.binOp .rem t x y u,ty,ps,af,none⟩::rest) L ds w :=
 cP hd (fun a ha=>by
  have h1:p.tmod q=p % q:=Int.tmod_eq_emod_of_nonneg hp;have h5:q≠0:=by omega
  simp[execOp,ha.eval hx,ha.eval hy,binOp,Op.intDiv,h1,eqGuard,h5]) next
theorem atp {d:Nat}{x y:Operand}{t u:TypeId}{p q:Bool}(hT:P.underlying t=some .bool)(hd:Nat.blt d n=true)(hx:od L x=some (.bool p))(hy:od L y=some (.bool q))
  (next:R P n ops Q rest ((d,.bool<|!(p==q))::L) ds w):R P n ops Q (⟨some d,.binOp .neq t x y u,ty,ps,af,none⟩::rest) L ds w :=
 cP hd (fun a ha=>by simp[execOp,ha.eval hx,ha.eval hy,run_neq_bool _ t p q hT,eqGuard_at_bool]) next
abbrev str (l:List UInt8):Value:= .string ⟨l.toArray⟩
theorem qG (l:List UInt8):(⟨l.toArray⟩:ByteArray).size=l.length:=by simp[ByteArray.size]
theorem atC {d:Nat}{x:Operand}{t:TypeId}{p:List UInt8}(hT:P.underlying t=some .string)(hd:Nat.blt d n=true)(hx:od L x=some (str p))
  (next:R P n ops Q rest ((d,.int .i64 p.length)::L) ds w):R P n ops Q (⟨some d,.call ⟨.builtin .len,#[x],#[t]⟩,ty,ps,af,none⟩::rest) L ds w :=
 cP hd (fun a ha=>by simp[execOp,resolve,invoke,builtin,ha.eval hx,run_len_string w t ty _ hT,goInt,qG]) next
theorem qn {d:Nat}{x y:Operand}{t:TypeId}{p:List UInt8}{k:Int}{i:Nat}(hT:P.underlying t=some .string)(hd:Nat.blt d n=true)(hx:od L x=some (str p))(hy:od L y=some (.int .i64 k))
  (hk:k=(i:Int)) (hi:i<p.length)
  (next:∀c,p[i]? = some c→R P n ops Q rest ((d,.int .u8 c.toNat)::L) ds w):R P n ops Q (⟨some d,.index t x y,ty,ps,af,none⟩::rest) L ds w :=
 cP hd (fun a ha=>by
  subst hk;have h1:(i:Int)<((⟨p.toArray⟩:ByteArray).size:Int):=by rw[qG];omega
  have h2:((⟨p.toArray⟩:ByteArray)[i]'(by rw[qG];omega))=p[i]:=rfl;simp[execOp,ha.eval hx,ha.eval hy,run_index_string w t _ _ _ hT,h1,h2]) (next p[i] (by simp[hi]))
theorem iJ {d:Nat}{x y:Operand}{t u:TypeId}{p q:List UInt8}(hd:Nat.blt d n=true)(hx:od L x=some (str p))(hy:od L y=some (str q))
  (next:R P n ops Q rest ((d,.bool<|decide (p=q))::L) ds w):R P n ops Q (⟨some d,.binOp .eql t x y u,ty,ps,af,none⟩::rest) L ds w :=
 cP hd (fun a ha=>by
  have:(p==q)=decide (p=q):=by rw[Bool.eq_iff_iff];simp
  simp[execOp,ha.eval hx,ha.eval hy,binOp_string_eql,eqGuard_at_string,this]) next
theorem tU {d:Nat}{x y:Operand}{t u:TypeId}{p q:List UInt8}(hd:Nat.blt d n=true)(hx:od L x=some (str p))(hy:od L y=some (str q))
  (next:R P n ops Q rest ((d,.bool<|!decide (p=q))::L) ds w):R P n ops Q (⟨some d,.binOp .neq t x y u,ty,ps,af,none⟩::rest) L ds w :=
 cP hd (fun a ha=>by
  have:(p==q)=decide (p=q):=by rw[Bool.eq_iff_iff];simp
  simp[execOp,ha.eval hx,ha.eval hy,binOp_string_neq,eqGuard_at_string,this]) next
theorem atV {d:Nat}{x y:Operand}{t u:TypeId}{p q:List UInt8}(hd:Nat.blt d n=true)(hx:od L x=some (str p))(hy:od L y=some (str q))
  (next:R P n ops Q rest ((d,.bool<|Op.bytesLess p q)::L) ds w):R P n ops Q (⟨some d,.binOp .lss t x y u,ty,ps,af,none⟩::rest) L ds w :=
 cP hd (fun a ha=>by simp[execOp,ha.eval hx,ha.eval hy,binOp,Op.stringOp,eqGuard_at_string]) next
theorem atQ {d:Nat}{x y:Operand}{t u:TypeId}{p q:List UInt8}(hd:Nat.blt d n=true)(hx:od L x=some (str p))(hy:od L y=some (str q))
  (next:R P n ops Q rest ((d,.bool<|Op.bytesLess p q||p==q)::L) ds w):R P n ops Q (⟨some d,.binOp .leq t x y u,ty,ps,af,none⟩::rest) L ds w :=
 cP hd (fun a ha=>by simp[execOp,ha.eval hx,ha.eval hy,binOp,Op.stringOp,eqGuard_at_string]) next
theorem atO {d:Nat}{x y:Operand}{t u:TypeId}{p q:List UInt8}(hd:Nat.blt d n=true)(hx:od L x=some (str p))(hy:od L y=some (str q))
  (next:R P n ops Q rest ((d,.bool<|!(Op.bytesLess p q||p==q))::L) ds w):R P n ops Q (⟨some d,.binOp .gtr t x y u,ty,ps,af,none⟩::rest) L ds w :=
 cP hd (fun a ha=>by simp[execOp,ha.eval hx,ha.eval hy,binOp,Op.stringOp,eqGuard_at_string]) next
theorem TA (p q:List UInt8):(⟨p.toArray⟩:ByteArray)++⟨q.toArray⟩=⟨(p++q).toArray⟩:=by
 apply ByteArray.ext;simp
theorem e8 {d:Nat}{x y:Operand}{t u:TypeId}{p q:List UInt8}(hd:Nat.blt d n=true)(hx:od L x=some (str p))(hy:od L y=some (str q))(hl:p.length+q.length≤9223372036854775807)
  (next:R P n ops Q rest ((d,str<|p++q)::L) ds w):R P n ops Q (⟨some d,.binOp .add t x y u,ty,ps,af,none⟩::rest) L ds w :=
 cP hd (fun a ha=>by
  have h1:(p.length:Int)+(q.length:Int)≤9223372036854775807:=by omega
  simp[execOp,ha.eval hx,ha.eval hy,binOp,Op.stringOp,eqGuard_at_string,qG,h1,TA]) next
theorem aaf {d:Nat}{x y z:Operand}{t:TypeId}{p:List UInt8}{i j:Int}(hT:P.underlying t=some .string)(hd:Nat.blt d n=true)(hx:od L x=some (str p))(hy:od L y=some (.int .i64 i))(hz:od L z=some (.int .i64 j))
  (h0:0≤i) (h1:i≤j) (h2:j≤p.length)
  (next:R P n ops Q rest ((d,str<|(p.drop i.toNat).take<|j.toNat-i.toNat)::L) ds w):R P n ops Q (⟨some d,.slice t x (some y) (some z) none,ty,ps,af,none⟩::rest) L ds w :=
 cP hd (fun a ha=>by
  have:=run_slice_string (P:=P) w t ⟨p.toArray⟩ .i64 .i64 i j hT h0 h1 (by rw[qG];exact h2);simp[execOp,ha.eval hx,ha.eval hy,ha.eval hz,run_sliceAt_string w t _ _ _ _ hT,this,ByteArray.extract_mk]) next
theorem BV {d:Nat}{x y:Operand}{t:TypeId}{p:List UInt8}{i:Int}(hT:P.underlying t=some .string)(hd:Nat.blt d n=true)(hx:od L x=some (str p))(hy:od L y=some (.int .i64 i))
  (h0:0≤i) (h2:i≤p.length)
  (next:R P n ops Q rest ((d,str<|p.drop i.toNat)::L) ds w):R P n ops Q (⟨some d,.slice t x (some y) none none,ty,ps,af,none⟩::rest) L ds w :=
 cP hd (fun a ha=>by
  have:=run_slice_string_from_if (P:=P) w t ⟨p.toArray⟩ .i64 i hT;rw[qG,if_pos ⟨h0,h2⟩,ByteArray.extract_mk,List.take_of_length_le<|by simp]at this;simp[execOp,ha.eval hx,ha.eval hy,run_sliceAt_string w t _ _ _ _ hT,this]) next
theorem Gf {d:Nat}{x z:Operand}{t:TypeId}{p:List UInt8}{j:Int}(hT:P.underlying t=some .string)(hd:Nat.blt d n=true)(hx:od L x=some (str p))(hz:od L z=some (.int .i64 j))
  (h0:0≤j) (h2:j≤p.length)
  (next:R P n ops Q rest ((d,str<|p.take j.toNat)::L) ds w):R P n ops Q (⟨some d,.slice t x none (some z) none,ty,ps,af,none⟩::rest) L ds w :=
 cP hd (fun a ha=>by
  have:=run_slice_string_to_if (P:=P) w t ⟨p.toArray⟩ .i64 j hT;rw[qG,if_pos ⟨h0,h2⟩,ByteArray.extract_mk,List.drop_zero,Nat.sub_zero]at this;simp[execOp,ha.eval hx,ha.eval hz,run_sliceAt_string w t _ _ _ _ hT,this]) next
theorem xK {d:Nat}{x:Operand}{s t:TypeId}{k k':IntKind}{p:Int}(hs:(P.underlying s).isSome=true)(ht:P.underlying t=some (.int k'))(hd:Nat.blt d n=true)(hx:od L x=some (.int k p))(hw:k'.wrap p=p)
  (next:R P n ops Q rest ((d,.int k' p)::L) ds w):R P n ops Q (⟨some d,.convert s t x,ty,ps,af,none⟩::rest) L ds w :=
 cP hd (fun a ha=>by
  cases h:P.underlying s with
  | none=>simp[h]at hs
  | some dd=>simp[execOp,ha.eval hx,convert,run_underlying h,run_underlying ht,Conv.intToInt,hw]) next
theorem atB {d:Nat}{x:Operand}{t e:TypeId}{a:Option Addr}{m c:Nat}(hT:P.underlying t=some (.slice e))(hd:Nat.blt d n=true)(hx:od L x=some (.slice a m c))
  (next:R P n ops Q rest ((d,.int .i64 m)::L) ds w):R P n ops Q (⟨some d,.call ⟨.builtin .len,#[x],#[t]⟩,ty,ps,af,none⟩::rest) L ds w :=
 cP hd (fun b hb=>by simp[execOp,resolve,invoke,builtin,hb.eval hx,Builtin.len_,run_underlying hT,goInt]) next
theorem aac {d:Nat}{x y:Operand}{t:Array TypeId}{p q:Int}(hd:Nat.blt d n=true)(hx:od L x=some (.int .i64 p))(hy:od L y=some (.int .i64 q))
  (next:R P n ops Q rest ((d,.int .i64<|min p q)::L) ds w):R P n ops Q (⟨some d,.call ⟨.builtin .min,#[x,y],t⟩,ty,ps,af,none⟩::rest) L ds w :=
 cP hd (fun b hb=>by
  have:(if q<p then q else p)=min p q:=by split<;>omega
  simp[execOp,resolve,invoke,builtin,hb.eval hx,hb.eval hy,Builtin.min_,Builtin.min2,this]) next
theorem atK {d:Nat}{x y:Operand}{t:Array TypeId}{p q:Int}(hd:Nat.blt d n=true)(hx:od L x=some (.int .i64 p))(hy:od L y=some (.int .i64 q))
  (next:R P n ops Q rest ((d,.int .i64<|max p q)::L) ds w):R P n ops Q (⟨some d,.call ⟨.builtin .max,#[x,y],t⟩,ty,ps,af,none⟩::rest) L ds w :=
 cP hd (fun b hb=>by
  have:(if q>p then q else p)=max p q:=by split<;>omega
  simp[execOp,resolve,invoke,builtin,hb.eval hx,hb.eval hy,run_max_int2,this]) next
theorem o6 {d:Nat}{f:FuncId}{xs:List Operand}{ts:Array TypeId}{vs:List Value}{C:Ending→World→Prop}(hf:∀args w,(callFunc f args).run P w= .ok (.enter f args) w)(hd:Nat.blt d n=true)
  (hx:lQ L xs=some vs) (hc:Calls P f vs.toArray w C) (next:∀e w',C e w'→∃v,e= .returned v∧R P n ops Q rest ((d,v)::L) ds w') :
  R P n ops Q (⟨some d,.call ⟨.value<|.func f,xs.toArray,ts⟩,ty,ps,af,none⟩::rest) L ds w:=by
 intro a ha;refine wpList_plain rfl fun K hK=>?_;have e:xs.map a.eval=vs:=ha.uK xs vs hx;have hr:(execOp a.eval ⟨some d,.call ⟨.value<|.func f,xs.toArray,ts⟩,ty,ps,af,none⟩).run P w= .ok (.enter f vs.toArray) w:=by
  simp[execOp,resolve,invoke,Act.eval,Deferred.ofValue,e,hf]
 unfold Oper.wp;rw[hr,Oper.upon_enter];refine hc.mono fun e w' hC=>?_;obtain⟨v,rfl,h⟩:=next e w' hC
 exact hK _ _<|h _<|ha.put hd v
end ops
abbrev PH:=Nat→Option Obj
def an (P P':PH):Prop:=∀b o,P b=some o→P' b=some o
theorem an.refl (P:PH):an P P:=fun _ _ h=>h
theorem an.trans {P P' Tf:PH}(h:an P P')(k:an P' Tf):an P Tf:=fun b o x=>k b o<|h b o x
structure Ext (w w':World):Prop where
 os:w'.os=w.os
 tape:w'.tape=w.tape
 output:w'.output=w.output
 size:w.heap.size≤w'.heap.size
 block:∀b,b<w.heap.size→w'.heap[b]? = w.heap[b]?
theorem Ext.refl (w:World):Ext w w:=⟨rfl,rfl,rfl,Nat.le_refl _,fun _ _=>rfl⟩
theorem Ext.trans {a b c:World}(h:Ext a b)(k:Ext b c):Ext a c :=
 ⟨k.os.trans h.os,k.tape.trans h.tape,k.output.trans h.output,Nat.le_trans h.size k.size,fun i hi=>(k.block i<|Nat.lt_of_lt_of_le hi h.size).trans<|h.block i hi⟩
theorem Ext.below {w w':World}(h:Ext w w'):RowKit.Below w.heap.size w w':=⟨h.os,h.tape,h.output,h.size,h.block⟩
theorem Ext.at0 {w w':World}(h:RowKit.Below w.heap.size w w'):Ext w w':=⟨h.os,h.tape,h.output,h.size,h.block⟩
theorem Ext.drew {w w':World}(h:Ext w w'):Ext w w'.drew:=⟨h.os,h.tape,h.output,h.size,h.block⟩
def aE (P:PH)(w:World):Prop:=∀b o,P b=some o→w.heap[b]? = some o
theorem aE.lt {P:PH}{w:World}(h:aE P w){b:Nat}{o:Obj}(hb:P b=some o):b<w.heap.size:=(Array.getElem?_eq_some_iff.1<|h b o hb).1
theorem aE.ext {P:PH}{w w':World}(h:aE P w)(e:Ext w w'):aE P w':=fun b o hb=>by rw[e.block b<|h.lt hb];exact h b o hb
def uw (w:World):PH:=fun b=>w.heap[b]?
theorem uw.sub (w:World):aE (uw w) w:=fun _ _ h=>h
structure Grow (w:World) (P:PH) (w':World) (P':PH):Prop where
 ext:Ext w w'
 le:an P P'
 sub:aE P' w'
 cO:∀b,b<w.heap.size→P b=none→P' b=none
theorem Grow.refl {w:World}{P:PH}(h:aE P w):Grow w P w P:=⟨Ext.refl w,an.refl P,h,fun _ _ h=>h⟩
theorem Grow.trans {w P w1 P1 w2 P2}(h:Grow w P w1 P1)(k:Grow w1 P1 w2 P2):Grow w P w2 P2 :=
 ⟨h.ext.trans k.ext,h.le.trans k.le,k.sub,fun b hb hn=>k.cO b (Nat.lt_of_lt_of_le hb h.ext.size)<|h.cO b hb hn⟩
structure aW where
 fp:List Nat
 pred:(Nat→Option Obj)→Prop
 loc:∀h h':Nat→Option Obj,(∀b,b ∈ fp→h b=h' b)→pred h→pred h'
 yu:∀h:Nat→Option Obj,pred h→∀b,b ∈ fp→∃o,h b=some o
abbrev cl (l:List Value) (e:TypeId):Obj:= .cells l.toArray e (0,0)
def ai (b:Nat)(o:Obj):aW where
 fp:=[b]
 pred h:=h b=some o
 loc h h' e p:=by rw[←e b<|by simp];exact p
 yu h p c hc:=by simp at hc;subst hc;exact⟨o,p⟩
def bq {α:Type}:List α→Nat→α→List α
 | [],_,_=>[]
 | _::r,0,y=>y::r
 | x::r,k+1,y=>x::bq r k y
def ez {α:Type}:List α→Nat→List α
 | [],_=>[]
 | _::r,0=>r
 | x::r,k+1=>x::ez r k
def aV (B:List aW):List Nat:=B.flatMap (·.fp)
theorem eO {α:Type}:∀{l:List α} {k:Nat} {x:α},nth l k=some x→x ∈ l
 | [],_,_,h=>by simp[nth]at h
 | y::r,0,x,h=>by simp[nth]at h;simp[h]
 | y::r,k+1,x,h=>by simp only[nth]at h;exact List.mem_cons_of_mem _<|eO h
theorem ZD {α:Type}:∀{l:List α} {k:Nat} {y:α},y ∈ ez l k→y ∈ l
 | [],_,_,h=>by simp[ez]at h
 | z::r,0,y,h=>by simp[ez]at h;simp[h]
 | z::r,k+1,y,h=>by
  simp only[ez,List.mem_cons]at h;rcases h with h|h
  ·simp[h]
  ·simp[ZD h]
theorem Vb {B:List aW}{k:Nat}{r:aW}(h:nth B k=some r){b:Nat}(hb:b ∈ r.fp):b ∈ aV B:=List.mem_flatMap.2 ⟨r,eO h,hb⟩
theorem pd:∀{B:List aW} {k:Nat} {r:aW},nth B k=some r→∃B1 B2,B=B1++r::B2∧(∀r',bq B k r'=B1++r'::B2)∧ez B k=B1++B2
 | [],_,_,h=>by simp[nth]at h
 | x::t,0,r,h=>by simp[nth]at h;subst h;exact⟨[],t,rfl,fun _=>rfl,rfl⟩
 | x::t,k+1,r,h=>by
  simp only[nth]at h;obtain⟨B1,B2,h1,h2,h3⟩:=pd h;exact⟨x::B1,B2,by simp[h1],fun r'=>by simp[bq,h2 r'],by simp[ez,h3]⟩
structure Hp (w0:World) (P0:PH) (S:List Nat) (w:World) (P:PH) (B:List aW):Prop where
 os:w.os=w0.os
 tape:w.tape=w0.tape
 output:w.output=w0.output
 size:w0.heap.size≤w.heap.size
 ext:∀b,b<w0.heap.size→b ∉ S→w.heap[b]? = w0.heap[b]?
 sub:aE P w
 le:an P0 P
 cO:∀b,b<w0.heap.size→P0 b=none→P b=none
 own:∀r,r ∈ B→r.pred (fun b=>w.heap[b]?)∧∀b,b ∈ r.fp→P b=none∧(b ∈ S∨w0.heap.size≤b)
 nd:(aV B).Nodup
section hp
variable {w0:World} {P0:PH} {S:List Nat} {w:World} {P:PH} {B:List aW}
theorem Hp.init {w:World}{P:PH}(h:aE P w):Hp w P [] w P []:=⟨rfl,rfl,rfl,Nat.le_refl _,fun _ _ _=>rfl,h,an.refl P,fun _ _ h=>h,by simp,by simp[aV]⟩
theorem Hp.re (w:World):Hp w (fun _=>none) [] w (fun _=>none) []:=Hp.init (fun _ _ h=>by simp at h)
theorem Hp.YH {w:World}{P:PH}{B:List aW}(h:aE P w)(hB:∀r,r ∈ B→r.pred (fun b=>w.heap[b]?)∧∀b,b ∈ r.fp→P b=none)(hn:(aV B).Nodup):Hp w P (aV B) w P B :=
 ⟨rfl,rfl,rfl,Nat.le_refl _,fun _ _ _=>rfl,h,an.refl P,fun _ _ h=>h,fun r hr=>⟨(hB r hr).1,fun b hb=>⟨(hB r hr).2 b hb,.inl<|List.mem_flatMap.2 ⟨r,hr,hb⟩⟩⟩,hn⟩
theorem Hp.Kl (H:Hp w0 P0 [] w P B):Ext w0 w:=⟨H.os,H.tape,H.output,H.size,fun b hb=>H.ext b hb<|by simp⟩
theorem Hp.abw (H:Hp w0 P0 [] w P B):Grow w0 P0 w P:=⟨H.Kl,H.le,H.sub,H.cO⟩
theorem Hp.lt (H:Hp w0 P0 S w P B){b:Nat}(hb:b ∈ aV B):b<w.heap.size:=by
 obtain⟨r,hr,hb⟩:=List.mem_flatMap.1 hb;obtain⟨o,ho⟩:=r.yu _ (H.own r hr).1 b hb;exact(Array.getElem?_eq_some_iff.1 ho).1
theorem Hp.RH (H:Hp w0 P0 S w P B){b:Nat}(hb:w.heap.size≤b):P b=none:=by
 cases h:P b with
 | none=>rfl
 | some o=>have:=H.sub.lt h;omega
theorem Hp.step (H:Hp w0 P0 S w P B){w':World}(e:Ext w w'):Hp w0 P0 S w' P B :=
 ⟨e.os.trans H.os,e.tape.trans H.tape,e.output.trans H.output,Nat.le_trans H.size e.size,
  fun b hb hS=>(e.block b<|Nat.lt_of_lt_of_le hb H.size).trans<|H.ext b hb hS,H.sub.ext e,H.le,H.cO,
  fun r hr=>⟨r.loc _ _ (fun b hb=>(e.block b<|H.lt<|List.mem_flatMap.2 ⟨r,hr,hb⟩).symm) (H.own r hr).1,(H.own r hr).2⟩,H.nd⟩
theorem Hp.grow (H:Hp w0 P0 S w P B){w':World}{P':PH}(g:Grow w P w' P'):Hp w0 P0 S w' P' B :=
 let H':=H.step g.ext
 ⟨H'.os,H'.tape,H'.output,H'.size,H'.ext,g.sub,H'.le.trans g.le,fun b hb hn=>g.cO b (Nat.lt_of_lt_of_le hb H.size)<|H'.cO b hb hn,fun r hr=>⟨(H'.own r hr).1,fun b hb=>⟨g.cO b (H.lt<|List.mem_flatMap.2 ⟨r,hr,hb⟩) ((H.own r hr).2 b hb).1,((H.own r hr).2 b hb).2⟩⟩,H.nd⟩
theorem Hp.add (H:Hp w0 P0 S w P B){w':World}(e:Ext w w')(r:aW)(hp:r.pred (fun b=>w'.heap[b]?))(hf:∀b,b ∈ r.fp→w.heap.size≤b)(hn:r.fp.Nodup):Hp w0 P0 S w' P (r::B):=by
 have H':=H.step e;refine⟨H'.os,H'.tape,H'.output,H'.size,H'.ext,H'.sub,H'.le,H'.cO,?_,?_⟩
 ·intro r' zn;rcases List.mem_cons.1 zn with rfl|zn
  ·exact⟨hp,fun b hb=>⟨H.RH<|hf b hb,.inr<|Nat.le_trans H.size<|hf b hb⟩⟩
  ·exact H'.own r' zn
 ·show(r.fp++aV B).Nodup;refine List.nodup_append.2 ⟨hn,H.nd,?_⟩;intro a ha b hb e;subst e;have:=hf a ha;have:=H.lt hb;omega
theorem Hp.upd (H:Hp w0 P0 S w P B){k:Nat}{r:aW}(hk:nth B k=some r){w':World}(hos:w'.os=w.os)(ht:w'.tape=w.tape)(ho:w'.output=w.output)(hs:w.heap.size≤w'.heap.size)
  (hb:∀b,b<w.heap.size→b ∉ r.fp→w'.heap[b]? = w.heap[b]?) (r':aW) (hp:r'.pred (fun b=>w'.heap[b]?)) (hf:∀b,b ∈ r'.fp→b ∈ r.fp∨w.heap.size≤b) (hn:r'.fp.Nodup) :
  Hp w0 P0 S w' P (bq B k r'):=by
 obtain⟨B1,B2,h1,h2,_⟩:=pd hk;have jE:=H.nd;rw[h1]at jE;simp only[aV,List.flatMap_append,List.flatMap_cons]at jE;have hr:=H.own r<|eO hk;have u7:∀q,q ∈ B1∨q ∈ B2→∀b,b ∈ q.fp→b ∉ r.fp:=by
  intro q hq b oB xa;obtain⟨n1,n2,n3⟩:=List.nodup_append.1 jE;obtain⟨m1,m2,m3⟩:=List.nodup_append.1 n2;rcases hq with hq|hq
  ·exact n3 b (List.mem_flatMap.2 ⟨q,hq,oB⟩) b (List.mem_append.2<|.inl xa) rfl
  ·exact m3 b xa b (List.mem_flatMap.2 ⟨q,hq,oB⟩) rfl
 have qa:∀q,q ∈ B1∨q ∈ B2→q ∈ B:=by
  intro q hq;rw[h1];rcases hq with hq|hq<;>simp[hq]
 refine⟨hos.trans H.os,ht.trans H.tape,ho.trans H.output,Nat.le_trans H.size hs,?_,?_,H.le,H.cO,?_,?_⟩
 ·intro b H_ hS
  have Em:b ∉ r.fp:=fun h=>by
   rcases (hr.2 b h).2 with h|h
   ·exact hS h
   ·omega
  rw[hb b (Nat.lt_of_lt_of_le H_ H.size) Em,H.ext b H_ hS]
 ·intro b o MY;have Em:b ∉ r.fp:=fun h=>by simp[(hr.2 b h).1]at MY
  rw[hb b (H.sub.lt MY) Em];exact H.sub b o MY
 ·intro q hq;rw[h2 r']at hq;have nh:q=r'∨(q ∈ B1∨q ∈ B2):=by
   rcases List.mem_append.1 hq with h|h
   ·exact .inr<|.inl h
   ·rcases List.mem_cons.1 h with h|h
    ·exact .inl h
    ·exact .inr<|.inr h
  rcases nh with rfl|nh
  ·refine⟨hp,fun b oB=>?_⟩;rcases hf b oB with h|h
   ·exact hr.2 b h
   ·exact⟨H.RH h,.inr<|Nat.le_trans H.size h⟩
  ·have jv:=H.own q<|qa q nh;refine⟨q.loc _ _ (fun b oB=>?_) jv.1,jv.2⟩;exact(hb b (H.lt<|List.mem_flatMap.2 ⟨q,qa q nh,oB⟩)<|u7 q nh b oB).symm
 ·rw[h2 r'];simp only[aV,List.flatMap_append,List.flatMap_cons];obtain⟨n1,n2,n3⟩:=List.nodup_append.1 jE;obtain⟨m1,m2,m3⟩:=List.nodup_append.1 n2;have ef:∀q,q ∈ B1∨q ∈ B2→∀b,b ∈ q.fp→b<w.heap.size:=fun q hq b oB=>H.lt<|List.mem_flatMap.2 ⟨q,qa q hq,oB⟩;refine List.nodup_append.2 ⟨n1,List.nodup_append.2 ⟨hn,m2,?_⟩,?_⟩
  ·intro a ha b rX e;subst e;obtain⟨q,hq,oB⟩:=List.mem_flatMap.1 rX;rcases hf a ha with h|h
   ·exact u7 q (.inr hq) a oB h
   ·have:=ef q (.inr hq) a oB;omega
  ·intro a ha b rX e;subst e;obtain⟨q,hq,oB⟩:=List.mem_flatMap.1 ha;rcases List.mem_append.1 rX with h|h
   ·rcases hf a h with h|h
    ·exact u7 q (.inl hq) a oB h
    ·have:=ef q (.inl hq) a oB;omega
   ·exact n3 a ha a (List.mem_append.2<|.inr h) rfl
theorem Hp.del (H:Hp w0 P0 S w P B){k:Nat}{r:aW}(hk:nth B k=some r):Hp w0 P0 S w P (ez B k):=by
 obtain⟨B1,B2,h1,_,h3⟩:=pd hk;refine⟨H.os,H.tape,H.output,H.size,H.ext,H.sub,H.le,H.cO,fun q hq=>H.own q<|ZD hq,?_⟩;have jE:=H.nd;rw[h1]at jE;rw[h3];simp only[aV,List.flatMap_append,List.flatMap_cons]at jE ⊢;obtain⟨n1,n2,n3⟩:=List.nodup_append.1 jE;obtain⟨m1,m2,m3⟩:=List.nodup_append.1 n2;exact List.nodup_append.2 ⟨n1,m2,fun a ha b hb e=>n3 a ha b (List.mem_append.2<|.inr hb) e⟩
def cW (P:PH)(w:World)(fp:List Nat):PH:=fun b=>match P b with
 | some o=>some o
 | none=>if b ∈ fp then w.heap[b]? else none
theorem cW.le (P:PH)(w:World)(fp:List Nat):an P (cW P w fp):=fun b o h=>by simp[cW,h]
theorem cW.at {P:PH}{w:World}{fp:List Nat}{b:Nat}(h:P b=none)(hb:b ∈ fp):cW P w fp b=w.heap[b]? := by simp[cW,h,hb]
theorem cW.off {P:PH}{w:World}{fp:List Nat}{b:Nat}(h:P b=none)(hb:b ∉ fp):cW P w fp b=none:=by simp[cW,h,hb]
theorem Hp.BL (H:Hp w0 P0 S w P B){k:Nat}{r:aW}(hk:nth B k=some r)(hS:∀b,b ∈ r.fp→b ∉ S):Hp w0 P0 S w (cW P w r.fp) (ez B k)∧(r.pred<|cW P w r.fp):=by
 have Hd:=H.del hk;have hr:=H.own r<|eO hk;obtain⟨B1,B2,h1,_,h3⟩:=pd hk;refine⟨⟨Hd.os,Hd.tape,Hd.output,Hd.size,Hd.ext,?_,Hd.le.trans<|cW.le _ _ _,?_,?_,Hd.nd⟩,?_⟩
 ·intro b o hb;unfold cW at hb;cases h:P b with
  | some o'=>simp[h]at hb;subst hb;exact H.sub b o' h
  | none=>simp[h]at hb;exact hb.2
 ·intro b hb hn;refine cW.off (H.cO b hb hn)<|fun xa=>?_;rcases (hr.2 b xa).2 with h|h
  ·exact hS b xa h
  ·omega
 ·intro q hq;have nh:=Hd.own q hq;refine⟨nh.1,fun b hb=>⟨cW.off (nh.2 b hb).1 ?_,(nh.2 b hb).2⟩⟩;intro xa;have jE:=H.nd;rw[h1]at jE;rw[h3]at hq;simp only[aV,List.flatMap_append,List.flatMap_cons]at jE;obtain⟨n1,n2,n3⟩:=List.nodup_append.1 jE;obtain⟨m1,m2,m3⟩:=List.nodup_append.1 n2;rcases List.mem_append.1 hq with h|h
  ·exact n3 b (List.mem_flatMap.2 ⟨q,h,hb⟩) b (List.mem_append.2<|.inl xa) rfl
  ·exact m3 b xa b (List.mem_flatMap.2 ⟨q,h,hb⟩) rfl
 ·exact r.loc _ _ (fun b hb=>(cW.at (hr.2 b hb).1 hb).symm) hr.1
theorem cW.cO {P:PH}{w:World}{fp:List Nat}{n:Nat}(hf:∀b,b ∈ fp→n≤b):∀b,b<n→P b=none→cW P w fp b=none :=
 fun b hb h=>cW.off h (fun hm=>by have:=hf b hm;omega)
end hp
def oe (P:PH)(b off:Nat)(v:Value):Prop:=∃C e fz,P b=some (.cells C e fz)∧C[off]? = some v
theorem oe.mono {P P':PH}{b off:Nat}{v:Value}(h:oe P b off v)(hle:an P P'):oe P' b off v:=let ⟨C,e,fz,h1,h2⟩:=h;⟨C,e,fz,hle _ _ h1,h2⟩
theorem oe.cell {P:PH}{w:World}{b off:Nat}{v:Value}(h:oe P b off v)(hs:aE P w):w.cell? ⟨b,off,none⟩=some v:=by
 obtain⟨C,e,fz,h1,h2⟩:=h;simp[World.cell?,hs _ _ h1,h2]
def fw (P:PH)(b off:Nat)(l:List Value):Prop:=∀j v,l[j]? = some v→oe P b (off+j) v
theorem fw.mono {P P':PH}{b off:Nat}{l:List Value}(h:fw P b off l)(hle:an P P'):fw P' b off l:=fun j v hv=>(h j v hv).mono hle
theorem jU {α:Type}:∀(l:List α) (k:Nat) (x:α),bq l k x=l.set k x
 | [],k,x=>by simp[bq]
 | y::r,0,x=>by simp[bq]
 | y::r,k+1,x=>by simp[bq,jU r k x]
theorem Ext.alloc (w:World)(o:Obj):Ext w (w.alloc o):=⟨rfl,rfl,rfl,by simp,fun b hb=>RowKit.Below.heap_alloc w o b hb⟩
theorem sT (w:World)(o:Obj):(w.alloc o).heap[w.heap.size]? = some o:=by show(w.heap.push o)[w.heap.size]? = some o;simp
def vc:Value→List Value
 | .agg cs=>cs.toList
 | v=>[v]
theorem uf (v:Value):v.cells=(vc v).toArray:=by cases v<;>simp[vc,Value.cells]
def ee (l:List Value):Nat→List Value→List Value
 | _,[]=>l
 | off,c::r=>ee (bq l off c) (off+1) r
theorem Rb {α:Type}(l:List α)(k:Nat)(x:α):(bq l k x).length=l.length:=by simp[jU]
theorem v_:∀(cs:List Value) (l:List Value) (off:Nat),(ee l off cs).length=l.length
 | [],l,off=>rfl
 | c::r,l,off=>by simp[ee,v_ r,Rb]
def s3 (pl:List (Nat×Nat))(l:List Value):List (Nat×Value)→Option (List Value)
 | []=>some l
 | (i,v)::r=>match nth pl i with
  | none=>none
  | some (off,sz)=>bif Nat.beq (vc v).length sz&&Nat.ble (off+sz) l.length then s3 pl (ee l off<|vc v) r else none
theorem U9:∀(cs:List Value) (l:List Value) (off k:Nat),
  ((cs.zipIdx k).foldl (fun(a:Array Value) (x:Value×Nat)=>a.setIfInBounds (off+x.2) x.1) l.toArray)=(ee l (off+k) cs).toArray
 | [],l,off,k=>by simp[ee]
 | c::r,l,off,k=>by
  simp only[List.zipIdx_cons,List.foldl_cons,ee];have:=U9 r (bq l (off+k) c) off<|k+1;rw[jU]at this ⊢;simp only[List.setIfInBounds_toArray]at this ⊢;rw[this];rfl
theorem fill_eq (pl:List (Nat×Nat)):∀(ps:List (Nat×Value)) (l l':List Value),s3 pl l ps=some l'→Instr.fill (fun i=>pl.toArray[i]?) l.toArray ps=some l'.toArray
 | [],l,l',h=>by simp[s3]at h;simp[Instr.fill,h]
 | (i,v)::r,l,l',h=>by
  simp only[s3]at h;simp only[Instr.fill];rw[ii]at h;have e:pl.toArray[i]? = pl[i]? := by simp
  rw[e];cases hp:pl[i]? with
  | none=>simp[hp]at h
  | some x =>
   obtain⟨off,sz⟩:=x;simp only[hp]at h;cases hb:(Nat.beq (vc v).length sz&&Nat.ble (off+sz) l.length) with
   | false=>simp[hb]at h
   | true =>
    simp only[hb,cond_true]at h;simp only[Bool.and_eq_true,Nat.ble_eq]at hb;have yS:=Nat.eq_of_beq_eq_true hb.1;have h1:v.cells.size=sz:=by rw[uf];simp[yS]
    have h2:¬(off+v.cells.size>l.toArray.size):=by rw[h1];simp;omega
    have h3:=fill_eq pl r _ l' h
    have h4:(v.cells.zipIdx.foldl (fun(cs:Array Value) (x:Value×Nat)=>cs.setIfInBounds (off+x.2) x.1) l.toArray)=(ee l off<|vc v).toArray:=by
     have:=U9 (vc v) l off 0;rw[Nat.add_zero]at this;rw[←this,uf];simp
    simp only[h1,ne_eq,not_true_eq_false,decide_false,Bool.false_or,decide_eq_true_eq];rw[if_neg<|by rw[←h1];exact h2];rw[←h3,←h4]
def wi (L:br):List (Nat×Operand)→Option (List<|Nat×Value)
 | []=>some []
 | (i,x)::r=>match od L x with
  | none=>none
  | some v=>match wi L r with
   | none=>none
   | some vs=>some<|(i,v)::vs
theorem et.HC {n L ds a}(h:et n L ds a):∀(xs:List (Nat×Operand)) (vs:List (Nat×Value)),wi L xs=some vs→xs.map (fun x=>(x.1,a.eval x.2))=vs
 | [],vs,hx=>by simp[wi]at hx;simp[hx]
 | (i,x)::r,vs,hx=>by
  simp only[wi]at hx;cases h1:od L x with
  | none=>simp[h1]at hx
  | some v =>
   simp only[h1]at hx;cases h2:wi L r with
   | none=>simp[h2]at hx
   | some us =>
    simp only[h2,Option.some.injEq]at hx;subst hx;simp[h.eval h1,h.HC r us h2]
def kS (P:Program)(t:TypeId)(pl:List (Nat×Nat))(zl:List Value):Prop :=
 ∀(ps:List (Nat×Value)) (l':List Value) (w:World),s3 pl zl ps=some l'→(Instr.build t ps.toArray).run P w= .ok (.agg l'.toArray) w
theorem mg {P:Program}{t:TypeId}{pl:List (Nat×Nat)}{zl:List Value}{fields:Array Field}(hz:∀w,(zeroValue t).run P w= .ok (.agg zl.toArray) w)(hU:∀w,(underlying t).run P w= .ok (.struct fields) w)
  (hp:∀w,(fields.mapM (fun f=>do pure (f.offset,←Go.sizeOf f.type)):Sem (Array<|Nat×Nat)).run P w= .ok pl.toArray w):kS P t pl zl:=by
 intro ps l' w hf;have h1:=fill_eq pl ps zl l' hf;simp only[Instr.build,Sem.run_bind,hz,hU,Result.andThen_ok,hp,Value.cells,h1,Sem.run_pure]
def rep {α:Type}:Nat→List α→List α
 | 0,_=>[]
 | k+1,z=>z++rep k z
def xV:Nat→Nat→Nat→List (Nat×Nat)
 | 0,_,_=>[]
 | k+1,i,sz=>(i*sz,sz)::xV k (i+1) sz
theorem ZR (sz:Nat):∀(n k i:Nat),i<n→nth (xV n k sz) i=some ((k+i)*sz,sz)
 | 0,k,i,h=>by omega
 | n+1,k,0,h=>by simp[xV,nth]
 | n+1,k,i+1,h=>by
  simp only[xV,nth];rw[ZR sz n (k+1) i<|by omega];congr 2;congr 1;omega
theorem UX {f g:Nat→Option (Nat×Nat)}{l:List Value}:∀(ps:List (Nat×Value)) (a:Array Value),(∀x,x ∈ ps→f x.1=g x.1)→Instr.fill f a ps=Instr.fill g a ps
 | [],a,_=>rfl
 | (i,v)::r,a,h=>by
  have h0:=h (i,v) (by simp);simp only at h0;simp only[Instr.fill,h0];split
  ·rfl
  ·split
   ·rfl
   ·exact UX (l:=l) r _ (fun x hx=>h x<|by simp[hx])
theorem Zr {α:Type}(z:List α):∀n,(rep n z).length=n*z.length
 | 0=>by simp[rep]
 | n+1=>by simp[rep,Zr z n,Nat.add_mul];omega
theorem auZ {α:Type}(z:List α)(n i:Nat)(hz:0<z.length)(h:i<n*z.length):(rep n z)[i]? = z[i % z.length]? := by
 induction n generalizing i with
 | zero=>simp at h
 | succ n ih =>
  simp only[rep];by_cases hi:i<z.length
  ·rw[List.getElem?_append_left hi,Nat.mod_eq_of_lt hi]
  ·obtain⟨j,rfl⟩:∃j,i=j+z.length:=⟨i-z.length,by omega⟩;rw[List.getElem?_append_right<|by omega,ih (j+z.length-z.length)<|by rw[Nat.succ_mul]at h;omega];rw[Nat.add_sub_cancel,Nat.add_mod_right]
theorem ZA (z:List Value)(n:Nat)(hz:0<z.length):(Array.range<|n*z.length).map (fun i=>z.toArray[i % z.toArray.size]!)=(rep n z).toArray:=by
 apply Array.ext';apply List.ext_getElem?;intro i;simp only[Array.toList_map,Array.toList_range,List.getElem?_map];by_cases hi:i<n*z.length
 ·rw[auZ z n i hz hi];have ef:i % z.length<z.length:=Nat.mod_lt _ hz;simp[hi,ef]
 ·have h1:(rep n z)[i]? = none:=by rw[List.getElem?_eq_none];rw[Zr];omega
  rw[h1];simp[hi]
theorem au9 {P:Program}{t e:TypeId}{sz:Nat}{z:List Value}{n:Nat}{ps:List (Nat×Value)}{l':List Value}(w:World)(hU:P.underlying t=some (.slice e))(hS:∀w,(Go.sizeOf e).run P w= .ok sz w)
  (hz:∀w,∃zv,(zeroValue e).run P w= .ok zv w∧vc zv=z) (nV:z.length=sz) (eF:0<sz) (hn:n*sz≤16777216) (hi:∀x,x ∈ ps→x.1<n) (hf:s3 (xV n 0 sz) (rep n z) ps=some l') :
  (Instr.buildSlice t n ps.toArray).run P w= .ok (.slice (some ⟨w.heap.size,0,none⟩) n n) (w.alloc<|.cells l'.toArray e):=by
 obtain⟨zv,iG,ku⟩:=hz w;have h1:=fill_eq _ ps _ l' hf
 have h2:Instr.fill (fun i=>(xV n 0 sz).toArray[i]?) (rep n z).toArray ps=Instr.fill (fun i=>some (i*sz,sz)) (rep n z).toArray ps:=by
  refine UX (l:=l') ps _ fun x hx=>?_;have:=ZR sz n 0 x.1<|hi x hx;rw[ii]at this;simp[this]
 rw[h2]at h1;have h3:¬n*sz>2 ^ 24:=by simpa using hn
 have h4:zv.cells=z.toArray:=by rw[uf,ku]
 by_cases h0:n*sz=0
 ·have my:n=0:=by
   rcases Nat.mul_eq_zero.1 h0 with h|h
   ·exact h
   ·omega
  subst my;simp only[rep]at h1;simp[Instr.buildSlice,run_underlying hU,hS,newRow];have e2:(Array.map (fun _:Nat=>(default:Value))<|Array.range 0)= #[]:=by simp
  rw[e2,h1];simp
 ·have h5:=ZA z n (by omega);rw[nV]at h5;simp only[Instr.buildSlice,Sem.run_bind,run_underlying hU,Result.andThen_ok,hS,if_neg h3,Sem.run_pure,h0,if_false,iG,h4,h5];simp[h1,newRow]
def acc (e:TypeId)(sz:Nat)(v:Value)(n:Nat)(cells:List Value):aW where
 fp:=match v with
  | .slice (some a) _ _=>[a.block]
  | _=>[]
 pred h:=cells.length=n*sz∧((v= .slice none 0 0∧n=0) ∨
  ∃b cap C,v= .slice (some ⟨b,0,none⟩) n cap∧h b=some (.cells C e (0,0))∧n≤cap∧cap≤maxLen∧cap*sz≤C.size∧C.toList.take (n*sz)=cells)
 loc h h' e p:=by
  refine⟨p.1,?_⟩
  rcases p.2 with p|⟨b,cap,C,rfl,p1,p2⟩
  ·exact .inl p
  ·exact .inr ⟨b,cap,C,rfl,by rw[←e b<|by simp];exact p1,p2⟩
 yu h p b hb:=by
  rcases p.2 with ⟨rfl,_⟩|⟨b',cap,C,rfl,p1,_⟩
  ·simp at hb
  ·simp at hb;subst hb;exact⟨_,p1⟩
theorem As (e:TypeId)(sz n:Nat)(c:List Value):(acc e sz (.slice none 0 0) n c).fp=[]:=rfl
theorem gO (e:TypeId)(sz n m k:Nat)(a:Addr)(c:List Value):(acc e sz (.slice (some a) m k) n c).fp=[a.block]:=rfl
theorem Ext.Hx (w:World)(o:Obj):Ext w (w.drew.alloc o):=⟨rfl,rfl,rfl,by simp,fun b hb=>RowKit.Below.heap_alloc w.drew o b hb⟩
theorem Hp.dX {w0 G0 S w G B}(H:Hp w0 G0 S w G B)(e:TypeId)(sz:Nat):Hp w0 G0 S w G (acc e sz (.slice none 0 0) 0 []::B) :=
 H.add (Ext.refl w) _ ⟨by simp,.inl ⟨rfl,rfl⟩⟩ (by simp[As]) (by simp[As])
theorem Hp.cM {w0 G0 S w G B}(H:Hp w0 G0 S w G B){k b n:Nat}{l:List Value}{e:TypeId}(sz:Nat)(hk:nth B k=some (ai b<|cl l e))(hl:l.length=n*sz)(hn:n≤maxLen) :
  Hp w0 G0 S w G (bq B k<|acc e sz (.slice (some ⟨b,0,none⟩) n n) n l):=by
 have hb:w.heap[b]? = some (cl l e):=(H.own _<|eO hk).1;refine H.upd hk rfl rfl rfl (Nat.le_refl _) (fun _ _ _=>rfl) _ ⟨hl,.inr ⟨b,n,l.toArray,rfl,hb,Nat.le_refl _,hn,by simp[hl],by simp[←hl]⟩⟩ ?_ (by simp[gO]);intro c hc;simp[gO]at hc;left;simp[ai,hc]
section ops
variable {P:Program} {n:Nat} {ops:Array Oper} {Q:dp} {rest:List Oper} {L:br} {ds:List Deferred} {w w0:World} {G0:PH} {S:List Nat} {G:PH} {B:List aW}
variable {ty:TypeId} {ps:String} {af:Array Edge}
theorem cN {d:Nat}{t:TypeId}{xs:List (Nat×Operand)}{kO:List (Nat×Value)}{pl:List (Nat×Nat)}{zl l':List Value}(hB:kS P t pl zl)(hd:Nat.blt d n=true)(hx:wi L xs=some kO)(hf:(s3 pl zl kO).bind lit=some l')
  (next:R P n ops Q rest ((d,.agg l'.toArray)::L) ds w):R P n ops Q (⟨some d,.build t xs.toArray,ty,ps,af,none⟩::rest) L ds w :=
 cP hd (fun a ha=>by
  obtain⟨l1,D1,qV⟩:=Option.bind_eq_some_iff.1 hf;obtain rfl:=rj qV;have h1:=hB kO l' w D1;have h2:=ha.HC xs kO hx;simp only[execOp];have:(Array.map (fun x:Nat×Operand=>(x.1,a.eval x.2)) xs.toArray)=kO.toArray:=by simp[h2]
  simp[this,h1]) next
theorem atr (H:Hp w0 G0 S w G B){d:Nat}{t e:TypeId}{m sz:Nat}{xs:List (Nat×Operand)}{kO:List (Nat×Value)}{z l':List Value}(hU:P.underlying t=some (.slice e))(hS:∀w,(Go.sizeOf e).run P w= .ok sz w)
  (hz:∀w,∃zv,(zeroValue e).run P w= .ok zv w∧vc zv=z) (nV:Nat.beq z.length sz=true) (eF:Nat.blt 0 sz=true) (hn:Nat.ble (m*sz) 16777216=true) (hd:Nat.blt d n=true) (hx:wi L xs=some kO)
  (hi:(kO.all fun x=>Nat.blt x.1 m)=true) (hf:(s3 (xV m 0 sz) (rep m z) kO).bind lit=some l')
  (next:∀b w',w.heap.size≤b→Hp w0 G0 S w' G (ai b (cl l' e)::B)→R P n ops Q rest ((d,.slice (some ⟨b,0,none⟩) m m)::L) ds w'):R P n ops Q (⟨some d,.buildSlice t m xs.toArray,ty,ps,af,none⟩::rest) L ds w :=
 cP hd (fun a ha=>by
  obtain⟨l1,D1,qV⟩:=Option.bind_eq_some_iff.1 hf;obtain rfl:=rj qV;have tx:∀x,x ∈ kO→x.1<m:=fun x hx=>by have:=List.all_eq_true.1 hi x hx;simpa using this
  have h1:=au9 w hU hS hz (Nat.eq_of_beq_eq_true nV) (by simpa using eF) (by simpa using hn) tx D1;have h2:=ha.HC xs kO hx;simp only[execOp];have:(Array.map (fun x:Nat×Operand=>(x.1,a.eval x.2)) xs.toArray)=kO.toArray:=by simp[h2]
  simp[this,h1]) (next w.heap.size _ (Nat.le_refl _) (H.add (Ext.alloc w _) (ai w.heap.size<|cl l' e) (sT w _) (by simp[ai])<|by simp[ai]))
theorem RI (H:Hp w0 G0 S w G B){d:Nat}{e:TypeId}{zv:Value}{l:List Value}(hz:∀w,(zeroValue e).run P w= .ok zv w)(hd:Nat.blt d n=true)(hl:lit (vc zv)=some l)
  (next:∀b w',w.heap.size≤b→Hp w0 G0 S w' G (ai b (cl l e)::B)→R P n ops Q rest ((d,.pointer<|some ⟨b,0,none⟩)::L) ds w'):R P n ops Q (⟨some d,.alloc e,ty,ps,af,none⟩::rest) L ds w :=
 cP hd (fun a ha=>by
  obtain rfl:=rj hl;simp[execOp,Instr.alloc,hz,newVar,newRow,uf]) (next w.heap.size _ (Nat.le_refl _) (H.add (Ext.alloc w _) (ai w.heap.size<|cl l e) (sT w _) (by simp[ai])<|by simp[ai]))
theorem cQ (H:Hp w0 G0 S w G B){d:Nat}{e:TypeId}{x:Operand}{v:Value}{l:List Value}(hd:Nat.blt d n=true)(hx:od L x=some v)(hl:lit (vc v)=some l)
  (next:∀b w',w.heap.size≤b→Hp w0 G0 S w' G (ai b (cl l e)::B)→R P n ops Q rest ((d,.pointer<|some ⟨b,0,none⟩)::L) ds w'):R P n ops Q (⟨some d,.box e x,ty,ps,af,none⟩::rest) L ds w :=
 cP hd (fun a ha=>by
  obtain rfl:=rj hl;simp[execOp,Instr.box,ha.eval hx,newVar,newRow,uf]) (next w.heap.size _ (Nat.le_refl _) (H.add (Ext.alloc w _) (ai w.heap.size<|cl l e) (sT w _) (by simp[ai])<|by simp[ai]))
theorem atE (H:Hp w0 G0 S w G B){d:Nat}{t:TypeId}{x:Operand}{b o:Nat}{v:Value}(hA:∀w,(isAgg t).run P w= .ok false w)(hd:Nat.blt d n=true)(hx:od L x=some (.pointer<|some ⟨b,o,none⟩))(hc:oe G b o v)
  (next:R P n ops Q rest ((d,v)::L) ds w):R P n ops Q (⟨some d,.load t x,ty,ps,af,none⟩::rest) L ds w :=
 cP hd (fun a ha=>by
  have:=hc.cell H.sub;simp[execOp,Instr.loadAt,ha.eval hx,Instr.sureAddr,loadVar,hA,this]) next
theorem iI (H:Hp w0 G0 S w G B){d:Nat}{t:TypeId}{x:Operand}{b o sz:Nat}{l:List Value}(hA:∀w,(isAgg t).run P w= .ok true w)(hS:∀w,(Go.sizeOf t).run P w= .ok sz w)(hd:Nat.blt d n=true)
  (hx:od L x=some (.pointer<|some ⟨b,o,none⟩)) (hr:fw G b o l) (hl:Nat.beq l.length sz=true)
  (next:R P n ops Q rest ((d,.agg l.toArray)::L) ds w):R P n ops Q (⟨some d,.load t x,ty,ps,af,none⟩::rest) L ds w :=
 cP hd (fun a ha=>by
  have na:=Nat.eq_of_beq_eq_true hl
  have:=run_loadCells_list (P:=P) w ⟨b,o,none⟩ l (fun j v hv=>by
   have:=(hr j v hv).cell H.sub;rw[Addr.add_lit];exact this)
  rw[na]at this;simp[execOp,Instr.loadAt,ha.eval hx,Instr.sureAddr,loadVar,hA,hS,this]) next
theorem pN (H:Hp w0 G0 S w G B){k b o:Nat}{C:Array Value}{e:TypeId}{fz:Nat×Nat}{v:Value}(hk:nth B k=some (ai b<|.cells C e fz))(hv:C[o]? = some v):w.cell? ⟨b,o,none⟩=some v:=by
 have:w.heap[b]? = some (.cells C e fz):=(H.own _<|eO hk).1;simp[World.cell?,this,hv]
theorem atD (k:Nat)(H:Hp w0 G0 S w G B){d:Nat}{t:TypeId}{x:Operand}{b o:Nat}{l:List Value}{e:TypeId}{v:Value}(hA:∀w,(isAgg t).run P w= .ok false w)(hd:Nat.blt d n=true)(hx:od L x=some (.pointer<|some ⟨b,o,none⟩))
  (hk:nth B k=some (ai b<|cl l e)) (hv:nth l o=some v) (next:R P n ops Q rest ((d,v)::L) ds w):R P n ops Q (⟨some d,.load t x,ty,ps,af,none⟩::rest) L ds w :=
 cP hd (fun a ha=>by
  have:=pN H hk (o:=o) (v:=v) (by rw[ii]at hv;simpa using hv);simp[execOp,Instr.loadAt,ha.eval hx,Instr.sureAddr,loadVar,hA,this]) next
def Ag (l:List Value)(o sz:Nat):List Value:=(l.drop o).take sz
theorem atF (k:Nat)(H:Hp w0 G0 S w G B){d:Nat}{t:TypeId}{x:Operand}{b o sz:Nat}{l l':List Value}{e:TypeId}(hA:∀w,(isAgg t).run P w= .ok true w)(hS:∀w,(Go.sizeOf t).run P w= .ok sz w)(hd:Nat.blt d n=true)
  (hx:od L x=some (.pointer<|some ⟨b,o,none⟩)) (hk:nth B k=some (ai b<|cl l e)) (hl:lit (Ag l o sz)=some l') (r8:Nat.beq l'.length sz=true)
  (next:R P n ops Q rest ((d,.agg l'.toArray)::L) ds w):R P n ops Q (⟨some d,.load t x,ty,ps,af,none⟩::rest) L ds w :=
 cP hd (fun a ha=>by
  have na:=Nat.eq_of_beq_eq_true r8
  have:=run_loadCells_list (P:=P) w ⟨b,o,none⟩ l' (fun j v hv=>by
   rw[Addr.add_lit];refine pN H hk ?_;obtain rfl:=rj hl;simp only[Ag,List.getElem?_take,List.getElem?_drop]at hv;split at hv
   ·simpa using hv
   ·simp at hv)
  rw[na]at this;simp[execOp,Instr.loadAt,ha.eval hx,Instr.sureAddr,loadVar,hA,hS,this]) next
theorem Ae (H:Hp w0 G0 S w G B){k b o:Nat}{l:List Value}{e:TypeId}(hk:nth B k=some (ai b<|cl l e))(v:Value):Hp w0 G0 S (w.setCell ⟨b,o,none⟩ v) G (bq B k<|ai b<|cl (bq l o v) e):=by
 have hb:w.heap[b]? = some (cl l e):=(H.own _<|eO hk).1;refine H.upd (w':=w.setCell ⟨b,o,none⟩ v) hk rfl rfl rfl (by simp) ?_ (ai b<|cl (bq l o v) e) ?_ (by simp[ai]) (by simp[ai])
 ·intro c hc hn;simp[ai]at hn;exact RowKit.Below.heap_setCell w _ v c hn
 ·show(w.setCell ⟨b,o,none⟩ v).heap[b]? = some _;simp[World.setCell,Array.getElem?_modify,hb,jU]
theorem CR (H:Hp w0 G0 S w G B){k b o:Nat}{l:List Value}{e:TypeId}(hk:nth B k=some (ai b<|cl l e)):w.frozen? ⟨b,o,none⟩=false:=by
 have hb:w.heap[b]? = some (cl l e):=(H.own _<|eO hk).1;simp[World.frozen?,hb]
theorem aaQ:∀(vs:List Value) (i:Nat) (l:List Value) (w:World) {k b o:Nat} {B:List aW} {e:TypeId},Hp w0 G0 S w G B→nth B k=some (ai b<|cl l e)→o+i+vs.length≤l.length→(∀v ∈ vs,v.oneCell'=true) →
  ∃w',(storeCells ⟨b,o,none⟩ vs i).run P w= .ok () w'∧Hp w0 G0 S w' G (bq B k<|ai b<|cl (ee l (o+i) vs) e):=by
 intro vs;induction vs with
 | nil =>
  intro i l w k b o B e H hk _ _;refine⟨w,rfl,?_⟩;simp only[ee];rw[show bq B k (ai b<|cl l e)=B from ?_]
  ·exact H
  ·obtain⟨B1,B2,h1,h2,_⟩:=pd hk;rw[h2,h1]
 | cons v r ih =>
  intro i l w k b o B e H hk hlen h1;have hv:=h1 v (by simp);have ef:o+i<l.length:=by simp at hlen;omega
  have aip:=pN H hk (o:=o+i) (v:=l[o+i]) (by simp[ef]);have gH:=CR H hk (o:=o+i);have H1:=Ae H hk (o:=o+i) v;have lC:nth (bq B k<|ai b<|cl (bq l (o+i) v) e) k=some (ai b<|cl (bq l (o+i) v) e):=by
   have:k<B.length:=by rw[ii]at hk;exact(List.getElem?_eq_some_iff.1 hk).1
   rw[ii,jU];simp[this]
  obtain⟨w',hr,H2⟩:=ih (i+1) (bq l (o+i) v) _ (o:=o) H1 lC (by
   rw[Rb];simp at hlen;omega) (fun u hu=>h1 u<|by simp[hu])
  refine⟨w',?_,?_⟩
  ·simp only[storeCells,Sem.run_bind,Addr.add_lit,run_store P w _ v _ hv,aip,gH,Bool.false_eq_true,if_false,Result.andThen_ok];exact hr
  ·simp only[ee];rw[show bq (bq B k<|ai b<|cl (bq l (o+i) v) e) k (ai b<|cl (ee (bq l (o+i) v) (o+(i+1)) r) e)=bq B k (ai b<|cl (ee (bq l (o+i) v) (o+i+1) r) e) from by
    simp[jU,List.set_set,Nat.add_assoc]]at H2
   exact H2
theorem atW (k:Nat)(H:Hp w0 G0 S w G B){t:TypeId}{x y:Operand}{b o sz:Nat}{l:List Value}{e:TypeId}{v:Value}(hS:∀w,(Go.sizeOf t).run P w= .ok sz w)(hx:od L x=some (.pointer<|some ⟨b,o,none⟩))(hy:od L y=some v)
  (hk:nth B k=some (ai b<|cl l e)) (eF:Nat.beq (vc v).length sz=true) (hlen:Nat.ble (o+(vc v).length) l.length=true) (h1:((vc v).all fun u=>u.oneCell')=true) {l':List Value} {B':List aW} (na:lit (ee l o<|vc v)=some l') (hB':lit (bq B k<|ai b<|cl l' e)=some B')
  (next:∀w',Hp w0 G0 S w' G B'→R P n ops Q rest L ds w'):R P n ops Q (⟨none,.store t x y,ty,ps,af,none⟩::rest) L ds w:=by
 obtain rfl:=rj na;obtain rfl:=rj hB';obtain⟨w',hr,H'⟩:=aaQ (P:=P) (vc v) 0 l w (o:=o) H hk (by simpa using hlen) (by simpa using h1);refine Hc (w':=w') (fun a ha=>?_)<|next w' (by simpa using H');have e1:(vc v).length=sz:=Nat.eq_of_beq_eq_true eF;simp[execOp,Instr.storeAt,ha.eval hx,ha.eval hy,Instr.sureAddr,storeVar,hS,uf,e1,hr]
theorem atz (off:Nat){d i:Nat}{t:TypeId}{x:Operand}{b o:Nat}{fields:Array Field}{f:Field}{sz:Nat}(hU:∀w,(underlying t).run P w= .ok (.struct fields) w)(hf:fields[i]? = some f)(hS:∀w,(Go.sizeOf f.type).run P w= .ok (sz+1) w)(ho:Nat.beq f.offset off=true)(hd:Nat.blt d n=true)
  (hx:od L x=some (.pointer<|some ⟨b,o,none⟩)) (next:R P n ops Q rest ((d,.pointer<|some ⟨b,o+off,none⟩)::L) ds w):R P n ops Q (⟨some d,.fieldAddr t x i,ty,ps,af,none⟩::rest) L ds w :=
 cP hd (fun a ha=>by
  have:=Nat.eq_of_beq_eq_true ho;subst this;simp[execOp,Instr.fieldAt,ha.eval hx,Instr.sureAddr,hU,hf,fieldPlace,hS,Addr.add_lit]) next
theorem Z5 {d:Nat}{t e:TypeId}{x y:Operand}{b o m c sz i:Nat}{k:Int}(hU:P.underlying t=some (.slice e))(hS:∀w,(Go.sizeOf e).run P w= .ok sz w)(hd:Nat.blt d n=true)(hx:od L x=some (.slice (some ⟨b,o,none⟩) m c))(hy:od L y=some (.int .i64 k))
  (hk:k=(i:Int)) (hi:i<m) (next:R P n ops Q rest ((d,.pointer<|some ⟨b,o+i*sz,none⟩)::L) ds w):R P n ops Q (⟨some d,.indexAddr t x y,ty,ps,af,none⟩::rest) L ds w :=
 cP hd (fun a ha=>by
  subst hk;have:0≤(i:Int)∧(i:Int)<(m:Int):=by omega
  have e1:(⟨b,o,none⟩:Addr).add (i*sz)=⟨b,o+i*sz,none⟩:=Addr.add_lit b o _;simp[execOp,Instr.indexAt,ha.eval hx,ha.eval hy,asIntOf,run_underlying hU,hS,hi,e1]) next
def iN:Nat:=1099511627776
def aU {α:Type}(lim:Nat)(E:PH→α→List Value→Prop)(sz:Nat)(G:PH)(v:Value)(xs:List α):Prop :=
 ∃a c,v= .slice a xs.length c∧xs.length≤c∧xs.length≤lim∧(xs=[]∨∃b o,a=some ⟨b,o,none⟩∧∀i x,xs[i]? = some x→∃cs,cs.length=sz∧E G x cs∧fw G b (o+i*sz) cs)
theorem aU.mono {α:Type}{lim:Nat}{E:PH→α→List Value→Prop}{sz:Nat}{G G':PH}{v:Value}{xs:List α}(hE:∀x cs,E G x cs→E G' x cs)(h:aU lim E sz G v xs)(hle:an G G'):aU lim E sz G' v xs:=by
 obtain⟨a,c,h1,h2,h3,h4⟩:=h;refine⟨a,c,h1,h2,h3,?_⟩;rcases h4 with h4|⟨b,o,h4,h5⟩
 ·exact .inl h4
 ·refine .inr ⟨b,o,h4,fun i x hx=>?_⟩;obtain⟨cs,k1,k2,k3⟩:=h5 i x hx;exact⟨cs,k1,hE x cs k2,k3.mono hle⟩
theorem aU.shape {α:Type}{lim:Nat}{E:PH→α→List Value→Prop}{sz:Nat}{G:PH}{v:Value}{xs:List α}(h:aU lim E sz G v xs):∃a c,v= .slice a xs.length c:=let ⟨a,c,h1,_⟩:=h;⟨a,c,h1⟩
theorem aU.lim {α:Type}{lim:Nat}{E:PH→α→List Value→Prop}{sz:Nat}{G:PH}{v:Value}{xs:List α}(h:aU lim E sz G v xs):xs.length≤lim:=by obtain⟨a,c,_,_,h3,_⟩:=h;exact h3
theorem aU.nil {α:Type}{lim:Nat}(E:PH→α→List Value→Prop)(sz:Nat)(G:PH):aU lim E sz G (.slice none 0 0) []:=⟨none,0,rfl,by simp,by simp,.inl rfl⟩
theorem aU.at {α:Type}{lim:Nat}{E:PH→α→List Value→Prop}{sz:Nat}{G:PH}{a:Option Addr}{m c:Nat}{xs:List α}(h:aU lim E sz G (.slice a m c) xs){i:Nat}(hi:i<xs.length) :
  ∃b o x cs,a=some ⟨b,o,none⟩∧xs[i]? = some x∧cs.length=sz∧E G x cs∧fw G b (o+i*sz) cs∧m=xs.length:=by
 obtain⟨a',c',h1,h2,h3,h4⟩:=h;simp only[Value.slice.injEq]at h1;obtain⟨rfl,rfl,rfl⟩:=h1;rcases h4 with rfl|⟨b,o,rfl,h5⟩
 ·simp at hi
 ·obtain⟨cs,k1,k2,k3⟩:=h5 i xs[i] (by simp[hi]);exact⟨b,o,xs[i],cs,rfl,by simp[hi],k1,k2,k3,rfl⟩
theorem atA {α:Type}{lim:Nat}{E:PH→α→List Value→Prop}{d:Nat}{t e:TypeId}{x y:Operand}{a:Option Addr}{xs:List α}{m c sz:Nat}{k:Int}(i:Nat)(hr:aU lim E sz G (.slice a m c) xs)(hU:P.underlying t=some (.slice e))(hS:∀w,(Go.sizeOf e).run P w= .ok sz w)
  (hd:Nat.blt d n=true) (hx:od L x=some (.slice a m c)) (hy:od L y=some (.int .i64 k)) (hk:k=(i:Int)) (hi:i<xs.length)
  (next:∀b o z cs,xs[i]? = some z→E G z cs→fw G b o cs→R P n ops Q rest ((d,.pointer<|some ⟨b,o,none⟩)::L) ds w):R P n ops Q (⟨some d,.indexAddr t x y,ty,ps,af,none⟩::rest) L ds w:=by
 obtain⟨b,o,z,cs,rfl,h1,h2,h3,h4,rfl⟩:=hr.at hi;exact Z5 hU hS hd hx hy hk hi<|next b _ z cs h1 h3 h4
end ops
def KX:Nat:=140737488355328
section
variable {P:Program} {w w0:World} {G0:PH} {S:List Nat} {G:PH} {B:List aW}
theorem KC (z:Array Value)(n:Nat):(Builtin.zeroCells z n).size=n*z.size:=by simp[Builtin.zeroCells]
theorem aaO (H:Hp w0 G0 S w G B){k:Nat}{t ty e:TypeId}{i:TypeInfo}{z:Value}{sz bytes:Nat}(ht:P.underlying t=some (.slice e))(hi:P.info? e=some i)(hz:i.zero=some z)
  (q5:i.size=sz) (iZ:i.bytes=bytes) (Jk:z.cells.size=sz) (eF:0<sz) {v:Value} {n:Nat} {xs:List Value} (hk:nth B k=some (acc e sz v n xs))
  {a:Addr} {m c:Nat} {news:List Value} (hl:news.length=m*sz) (vu:∀j u,news[j]? = some u→w.cell? (a.add j)=some u) (h1:∀u ∈ news,u.oneCell'=true)
  (hn:n+m≤maxLen) (bd:(n+m)*bytes≤KX) :
  ∃v' w',(Builtin.append_ #[t,t] ty #[v,.slice (some a) m c]).run P w= .ok v' w'∧Hp w0 G0 S w' G (bq B k<|acc e sz v' (n+m)<|xs++news):=by
 subst q5 iZ;have H9:(n+m)*i.bytes≤140737488355328:=bd;have ayY:n+m≤9223372036854775807:=by simp only[maxLen]at hn;omega
 have oP:=(H.own _<|eO hk).1;obtain⟨gm,oP⟩:=oP;have hlen:(xs++news).length=(n+m)*i.size:=by rw[List.length_append,gm,hl,Nat.add_mul]
 have grown:∀(cO:Nat),cO<n+m →
   Hp w0 G0 S (w.drew.alloc<|.cells (xs.toArray++news.toArray++Builtin.zeroCells z.cells (grownCap w (n+m) cO e-(n+m))) e) G
    (bq B k<|acc e i.size (.slice (some ⟨w.heap.size,0,none⟩) (n+m)<|grownCap w (n+m) cO e) (n+m)<|xs++news):=by
  intro cO ho;have c7:=grownCap_ge w (n+m) cO e;have nO:grownCap w (n+m) cO e≤maxLen:=grownCap_le_maxLen w (n+m) cO e hn;have E:=Ext.Hx w<|.cells (xs.toArray++news.toArray++Builtin.zeroCells z.cells (grownCap w (n+m) cO e-(n+m))) e;refine H.upd hk E.os E.tape E.output E.size (fun b hb _=>E.block b hb) _ ⟨hlen,.inr ⟨w.heap.size,_,(xs.toArray++news.toArray++Builtin.zeroCells z.cells (grownCap w (n+m) cO e-(n+m))),rfl,?_,c7,nO,?_,?_⟩⟩ ?_ (by simp[gO])
  ·exact sT w.drew _
  ·refine Nat.le_of_eq ?_;simp only[Array.size_append,List.size_toArray,KC,Jk,gm,hl,←Nat.add_mul];congr 1;omega
  ·simp only[Array.toList_append,List.append_assoc];rw[←List.append_assoc,←hlen];exact List.take_left
  ·intro b hb;simp[gO]at hb;right;omega
 rcases oP with ⟨rfl,rfl⟩|⟨g,cap,cur,rfl,hg,Ei,nO,r3,pr⟩
 ·have hx:xs=[]:=List.eq_nil_of_length_eq_zero (by simpa using gm);subst hx;by_cases hm:m=0
  ·subst hm;have hn:news=[]:=List.eq_nil_of_length_eq_zero (by simpa using hl);subst hn;refine⟨.slice none 0 0,w,?_,?_⟩
   ·simp[Builtin.append_,run_underlying ht,Go.sizeOf,typeInfo,hi,Builtin.lenOf,Builtin.firstCells,loadCells,loadCellsFrom]
   ·refine H.upd hk rfl rfl rfl (Nat.le_refl _) (fun _ _ _=>rfl) _ ⟨by simp,.inl ⟨rfl,rfl⟩⟩ (by simp[As]) (by simp[As])
  ·have hr:=run_append_nil (P:=P) w t ty e i z ht hi hz a m c news hl vu (by omega) (by omega) (by simp only[Nat.zero_add]at H9;omega);have mw:=grown 0 (by omega);simp only[Nat.zero_add,List.nil_append,Array.empty_append]at mw ⊢;exact⟨_,_,hr,mw⟩
 ·by_cases vH:n+m≤cap
  ·have aiS:n*i.size+news.length≤cur.size:=by rw[hl,←Nat.add_mul];exact Nat.le_trans (Nat.mul_le_mul_right _ vH) r3
   have hr:=run_append_room (P:=P) w t ty e i ht hi g n cap cur hg a m c news hl vu h1 vH aiS;refine⟨_,_,hr,?_⟩;refine H.upd (w':=w.setRow g (cur.toList.take (n*i.size)++news++cur.toList.drop (n*i.size+news.length)).toArray) hk rfl rfl rfl (by simp) ?_ (acc e i.size (.slice (some ⟨g,0,none⟩) (n+m) cap) (n+m)<|xs++news) ⟨hlen,.inr ⟨g,cap,(cur.toList.take (n*i.size)++news++cur.toList.drop (n*i.size+news.length)).toArray,rfl,setRow_heap w g cur _ e _ hg,vH,nO,?_,?_⟩⟩ ?_ (by simp[gO])
   ·intro b _ qS;simp[gO]at qS;exact setRow_other w g b _ qS
   ·simp only[List.size_toArray,List.length_append,List.length_take,List.length_drop,Array.length_toList];omega
   ·rw[pr,←hlen];exact List.take_left
   ·intro b hb;left;simpa [gO] using hb
  ·have holds:∀j u,xs[j]? = some u→w.cell? ((⟨g,0,none⟩:Addr).add j)=some u:=by
    intro j u hu;rw[Addr.add_lit,Nat.zero_add];have hj:cur[j]? = some u:=by
     rw[←pr,List.getElem?_take]at hu;split at hu
     ·simpa using hu
     ·cases hu
    simp[World.cell?,hg,hj]
   have hr:=run_append_grow (P:=P) w t ty e i z ht hi hz ⟨g,0,none⟩ n cap xs gm holds a m c news hl vu (by omega) (by omega)<|growslice_fits (by omega) H9;exact⟨_,_,hr,grown cap<|by omega⟩
end
section ops
variable {P:Program} {n:Nat} {ops:Array Oper} {Q:dp} {rest:List Oper} {L:br} {ds:List Deferred} {w w0:World} {G0:PH} {S:List Nat} {G:PH} {B:List aW}
variable {ty:TypeId} {ps:String} {af:Array Edge}
theorem vW {t:TypeId}{i:TypeInfo}(h:∀w,(typeInfo t).run P w= .ok i w):P.info? t=some i:=by
 have:=h default;simp only[typeInfo,Sem.run_bind,run_program,Result.andThen_ok]at this;cases hi:P.info? t with
 | none=>simp[hi]at this
 | some j=>simp[hi]at this;simp[this]
theorem JR (k:Nat)(H:Hp w0 G0 S w G B){d:Nat}{t e:TypeId}{i:TypeInfo}{sz bytes:Nat}{x y:Operand}{v:Value}{m k0:Nat}{xs:List Value}{b o c:Nat}{news:List Value}
  (hU:P.underlying t=some (.slice e)) (hI:∀w,(typeInfo e).run P w= .ok i w) (hz:∃z,i.zero=some z∧(vc z).length=sz) (hs:i.size=sz) (iZ:i.bytes=bytes) (eF:Nat.blt 0 sz=true) (hd:Nat.blt d n=true)
  (hx:od L x=some v) (hy:od L y=some (.slice (some ⟨b,o,none⟩) m c)) (hk:nth B k=some (acc e sz v k0 xs)) (hl:news.length=m*sz) (vu:∀j u,news[j]? = some u→w.cell? ⟨b,o+j,none⟩=some u) (h1:∀u ∈ news,u.oneCell'=true)
  (hb:k0+m≤2199023255552) (fU:bytes≤64)
  (next:∀v' w',Hp w0 G0 S w' G (bq B k<|acc e sz v' (k0+m)<|xs++news)→R P n ops Q rest ((d,v')::L) ds w'):R P n ops Q (⟨some d,.call ⟨.builtin .append,#[x,y],#[t,t]⟩,ty,ps,af,none⟩::rest) L ds w:=by
 obtain⟨z,iG,ku⟩:=hz
 obtain⟨v',w',hr,H'⟩:=aaO (P:=P) (ty:=ty) H hU (vW hI) iG hs iZ (by rw[uf];simpa using ku) (by simpa using eF) hk (a:=⟨b,o,none⟩) (m:=m) (c:=c) hl (fun j u hu=>by rw[Addr.add_lit];exact vu j u hu) h1
  (by simp only[maxLen];omega) (by
   simp only[KX]
   calc (k0+m)*bytes≤2199023255552*64:=Nat.mul_le_mul hb fU
    _≤_:=by decide)
 exact cP hd (fun a ha=>by simp[execOp,resolve,invoke,builtin,ha.eval hx,ha.eval hy,hr])<|next v' w' H'
theorem e7 (k:Nat){r0:aW}(H:Hp w0 G0 S w G (r0::B)){d:Nat}{t e:TypeId}{i:TypeInfo}{sz bytes:Nat}{x y:Operand}{v:Value}{m k0:Nat}{xs:List Value}{b c:Nat}{e':TypeId}{news:List Value}
  (hU:P.underlying t=some (.slice e)) (hI:∀w,(typeInfo e).run P w= .ok i w) (hz:∃z,i.zero=some z∧(vc z).length=sz) (hs:i.size=sz) (iZ:i.bytes=bytes) (eF:Nat.blt 0 sz=true) (hd:Nat.blt d n=true)
  (hx:od L x=some v) (hy:od L y=some (.slice (some ⟨b,0,none⟩) m c)) (h0:r0=ai b (cl news e')) (hk:nth B k=some (acc e sz v k0 xs)) (hl:Nat.beq news.length (m*sz)=true) (h1:(news.all fun u=>u.oneCell')=true)
  (hb:k0+m≤2199023255552) (fU:Nat.ble bytes 64=true)
  (next:∀v' w',Hp w0 G0 S w' G (bq B k<|acc e sz v' (k0+m)<|xs++news)→R P n ops Q rest ((d,v')::L) ds w'):R P n ops Q (⟨some d,.call ⟨.builtin .append,#[x,y],#[t,t]⟩,ty,ps,af,none⟩::rest) L ds w:=by
 subst h0;refine JR (k+1) H hU hI hz hs iZ eF hd hx hy (by simpa [nth] using hk) (Nat.eq_of_beq_eq_true hl) (fun j u hu=>?_) (by simpa using h1) hb (by simpa using fU) ?_
 ·refine pN (k:=0) H rfl ?_;simpa using hu
 ·intro v' w' H';exact next v' w' (by simpa [bq,ez] using H'.del (k:=0) rfl)
theorem tS {α:Type}{lim:Nat}{E:PH→α→List Value→Prop}(k:Nat)(H:Hp w0 G0 S w G B){d:Nat}{t e:TypeId}{i:TypeInfo}{sz bytes:Nat}{x y:Operand}{v:Value}{k0:Nat}{xs:List Value}{a:Option Addr}{m c:Nat}{zs:List α}
  (hr:aU lim E sz G (.slice a m c) zs) (hE:∀z cs,E G z cs→∀u ∈ cs,u.oneCell'=true)
  (hU:P.underlying t=some (.slice e)) (hI:∀w,(typeInfo e).run P w= .ok i w) (hz:∃z,i.zero=some z∧(vc z).length=sz) (hs:i.size=sz) (iZ:i.bytes=bytes) (eF:Nat.blt 0 sz=true) (hd:Nat.blt d n=true)
  (hx:od L x=some v) (hy:od L y=some (.slice a m c)) (hk:nth B k=some (acc e sz v k0 xs)) (hb:k0+m≤2199023255552) (fU:Nat.ble bytes 64=true)
  (next:∀v' w' (bu:List (List Value)),bu.length=zs.length→(∀(i:Nat) (z:α),zs[i]? = some z→∃cs,bu[i]? = some cs∧cs.length=sz∧E G z cs)→Hp w0 G0 S w' G (bq B k<|acc e sz v' (k0+m)<|xs++bu.flatten)→R P n ops Q rest ((d,v')::L) ds w') :
  R P n ops Q (⟨some d,.call ⟨.builtin .append,#[x,y],#[t,t]⟩,ty,ps,af,none⟩::rest) L ds w:=by
 obtain⟨a',c',g1,g2,g3,g4⟩:=hr;simp only[Value.slice.injEq]at g1;obtain⟨rfl,rfl,rfl⟩:=g1;rcases g4 with rfl|⟨b,o,rfl,g5⟩
 ·
  have oP:=(H.own _<|eO hk).1;obtain⟨z,iG,ku⟩:=hz;refine cP hd (v:=v) (w':=w) (fun a' ha=>?_)<|next v w [] rfl (by simp) ?_
  ·have gu:∃ad l c,v= .slice ad l c∧l≤c:=by
    rcases oP.2 with ⟨h,_⟩|⟨b,cap,C,h,_,h3,_⟩
    ·exact⟨_,_,_,h,Nat.le_refl _⟩
    ·exact⟨_,_,_,h,h3⟩
   obtain⟨ad,l,cc,rfl,hlc⟩:=gu;simp[execOp,resolve,invoke,builtin,ha.eval hx,ha.eval hy,Builtin.append_,run_underlying hU,Go.sizeOf,hI,Builtin.lenOf,Builtin.firstCells,hlc];cases ad<;>cases a<;>simp[storeCells,loadCells,loadCellsFrom]
  ·simp only[List.flatten_nil,List.append_nil,List.length_nil,Nat.add_zero];rw[show bq B k (acc e sz v k0 xs)=B from ?_]
   ·exact H
   ·obtain⟨B1,B2,h1,h2,_⟩:=pd hk;rw[h2,h1]
 ·
  have hex : ∀ m, m ≤ zs.length → ∃ bu : List (List Value), bu.length = m ∧ (∀ i z, i < m → zs[i]? = some z → ∃ cs, bu[i]? = some cs ∧ cs.length = sz ∧ E G z cs) ∧ bu.flatten.length = m * sz ∧ fw G b o bu.flatten ∧ (∀ u ∈ bu.flatten, u.oneCell' = true) := by
   intro m;induction m with
   | zero=>intro _;exact⟨[],rfl,by simp,by simp,by intro j v h;simp at h,by simp⟩
   | succ m ih =>
    intro hm;obtain⟨bu,c1,c2,c3,c4,c5⟩:=ih (by omega);obtain⟨cs,d1,d2,d3⟩:=g5 m zs[m] (by simp);refine⟨bu++[cs],by simp[c1],?_,by simp[c3,d1,Nat.add_mul],?_,?_⟩
    ·intro i z hi hz;by_cases e:i=m
     ·subst e;have:zs[i]=z:=by
       have:=List.getElem?_eq_some_iff.1 hz;obtain⟨_,h⟩:=this;exact h
      refine⟨cs,?_,d1,this▸d2⟩;rw[List.getElem?_append_right<|by omega];simp[c1]
     ·obtain⟨eR,e1,e2,e3⟩:=c2 i z (by omega) hz;refine⟨eR,?_,e2,e3⟩;rw[List.getElem?_append_left<|by omega];exact e1
    ·intro j v hv;simp only[List.flatten_append,List.flatten_cons,List.flatten_nil,List.append_nil]at hv;by_cases hj:j<bu.flatten.length
     ·rw[List.getElem?_append_left hj]at hv;exact c4 j v hv
     ·rw[List.getElem?_append_right<|by omega]at hv;have:=d3 _ v hv;rw[c3]at this hj;rw[show o+j=o+m*sz+(j-m*sz) by omega];exact this
    ·intro u hu;simp only[List.flatten_append,List.flatten_cons,List.flatten_nil,List.append_nil,List.mem_append]at hu;rcases hu with hu|hu
     ·exact c5 u hu
     ·exact hE _ _ d2 u hu
  obtain⟨bu,c1,c2,c3,c4,c5⟩:=hex zs.length<|Nat.le_refl _;refine JR k H hU hI hz hs iZ eF hd hx hy hk c3 (fun j u hu=>(c4 j u hu).cell H.sub) c5 hb (by simpa using fU) ?_;intro v' w' H';exact next v' w' bu c1 (fun i z hz=>c2 i z (List.getElem?_eq_some_iff.1 hz).1 hz) H'
end ops
def ay {α:Type}(E:PH→α→List Value→Prop)(sz:Nat)(G:PH)(cells:List Value)(xs:List α):Prop :=
 ∃bu:List (List Value),cells=bu.flatten∧bu.length=xs.length∧∀(i:Nat) (x:α),xs[i]? = some x→∃cs,bu[i]? = some cs∧cs.length=sz∧E G x cs
section sX
variable {α:Type} {E:PH→α→List Value→Prop} {sz:Nat} {G G':PH}
theorem ay.nil:ay E sz G [] ([]:List α):=⟨[],rfl,rfl,by simp⟩
theorem ay.app {c c':List Value}{xs ys:List α}(h:ay E sz G c xs)(k:ay E sz G c' ys):ay E sz G (c++c') (xs++ys):=by
 obtain⟨bu,h1,h2,h3⟩:=h;obtain⟨dss,k1,k2,k3⟩:=k;refine⟨bu++dss,by simp[h1,k1],by simp[h2,k2],?_⟩;intro i x hx;by_cases hi:i<xs.length
 ·rw[List.getElem?_append_left hi]at hx;rw[List.getElem?_append_left<|by omega];exact h3 i x hx
 ·rw[List.getElem?_append_right<|by omega]at hx;rw[List.getElem?_append_right<|by omega,h2];exact k3 _ x hx
theorem ay.one {cs:List Value}{x:α}(h:E G x cs)(hl:cs.length=sz):ay E sz G cs [x]:=⟨[cs],by simp,rfl,by
 intro i y hy
 cases i with
 | zero=>simp at hy;subst hy;exact⟨cs,rfl,hl,h⟩
 | succ i=>simp at hy⟩
theorem ay.snoc {c cs:List Value}{xs:List α}{x:α}(h:ay E sz G c xs)(hx:E G x cs)(hl:cs.length=sz):ay E sz G (c++cs) (xs++[x]):=h.app<|ay.one hx hl
theorem ay.mono {c:List Value}{xs:List α}(hE:∀x cs,E G x cs→E G' x cs)(h:ay E sz G c xs):ay E sz G' c xs:=by
 obtain⟨bu,h1,h2,h3⟩:=h;exact⟨bu,h1,h2,fun i x hx=>let ⟨cs,a,b,c⟩:=h3 i x hx;⟨cs,a,b,hE x cs c⟩⟩
theorem ay.length {c:List Value}{xs:List α}(h:ay E sz G c xs):c.length=xs.length*sz:=by
 obtain⟨bu,h1,h2,h3⟩:=h;subst h1;have:∀(xs:List α) (bu:List (List Value)),bu.length=xs.length→(∀(i:Nat) (x:α),xs[i]? = some x→∃cs,bu[i]? = some cs∧cs.length=sz∧E G x cs)→bu.flatten.length=xs.length*sz:=by
  intro xs;induction xs with
  | nil=>intro bu h _;simp at h;simp[h]
  | cons x r ih =>
   intro bu h hh;cases bu with
   | nil=>simp at h
   | cons cs t =>
    obtain⟨eR,e1,e2,_⟩:=hh 0 x rfl;simp at e1;subst e1;have:=ih t (by simpa using h)<|fun i y hy=>hh (i+1) y hy;simp[e2,this,Nat.add_mul];omega
 exact this xs bu h2 h3
theorem ay.get {c:List Value}{xs:List α}(h:ay E sz G c xs):∀i x,xs[i]? = some x→∃cs,cs.length=sz∧E G x cs∧∀j v,cs[j]? = some v→c[i*sz+j]? = some v:=by
 obtain⟨bu,h1,h2,h3⟩:=h;subst h1;have : ∀ (xs : List α) (bu : List (List Value)), bu.length = xs.length → (∀ (i : Nat) (x : α), xs[i]? = some x → ∃ cs, bu[i]? = some cs ∧ cs.length = sz ∧ E G x cs) →
   ∀(i:Nat) (x:α),xs[i]? = some x→∃cs,cs.length=sz∧E G x cs∧∀j v,cs[j]? = some v→bu.flatten[i*sz+j]? = some v:=by
  intro xs;induction xs with
  | nil=>intro bu _ _ i x hx;simp at hx
  | cons y r ih =>
   intro bu h hh i x hx;cases bu with
   | nil=>simp at h
   | cons cs t =>
    obtain⟨eR,e1,e2,e3⟩:=hh 0 y rfl;simp at e1;subst e1;cases i with
    | zero =>
     simp at hx;subst hx;refine⟨cs,e2,e3,fun j v hv=>?_⟩;have hj:j<cs.length:=(List.getElem?_eq_some_iff.1 hv).1;simp only[List.flatten_cons,Nat.zero_mul,Nat.zero_add];rw[List.getElem?_append_left hj];exact hv
    | succ i =>
     obtain⟨ds,f1,f2,f3⟩:=ih t (by simpa using h) (fun i z hz=>hh (i+1) z hz) i x (by simpa using hx);refine⟨ds,f1,f2,fun j v hv=>?_⟩;have:=f3 j v hv;simp only[List.flatten_cons];rw[List.getElem?_append_right<|by rw[e2,Nat.add_mul];omega];rw[e2,show(i+1)*sz+j-sz=i*sz+j by rw[Nat.add_mul];omega];exact this
 exact this xs bu h2 h3
variable {w w0:World} {G0:PH} {S:List Nat} {B:List aW}
end sX
section ops
variable {P:Program} {n:Nat} {ops:Array Oper} {Q:dp} {rest:List Oper} {L:br} {ds:List Deferred} {w w0:World} {G0:PH} {S:List Nat} {G:PH} {B:List aW}
variable {ty:TypeId} {ps:String} {af:Array Edge}
theorem RT {d:Nat}{t e:TypeId}{x y z:Operand}{a:Option Addr}{m c sz i j:Nat}{p q:Int}(hU:P.underlying t=some (.slice e))(hS:∀w,(Go.sizeOf e).run P w= .ok sz w)(hd:Nat.blt d n=true)(hx:od L x=some (.slice a m c))
  (hy:od L y=some (.int .i64 p)) (hz:od L z=some (.int .i64 q)) (hp:p=i) (hq:q=j) (h1:i≤j) (h2:j≤c)
  (next:R P n ops Q rest ((d,.slice (if c=i then a else a.map (·.add (i*sz))) (j-i)<|c-i)::L) ds w):R P n ops Q (⟨some d,.slice t x (some y) (some z) none,ty,ps,af,none⟩::rest) L ds w :=
 cP hd (fun b hb=>by
  subst hp hq;simp[execOp,hb.eval hx,hb.eval hy,hb.eval hz,Instr.sliceAt,Instr.slice,run_underlying hU,Instr.sliceBounds,Instr.sliceBound,asIntOf,hS,h1,h2]) next
theorem tT {d:Nat}{t e:TypeId}{x y:Operand}{a:Option Addr}{m c sz i:Nat}{p:Int}(hU:P.underlying t=some (.slice e))(hS:∀w,(Go.sizeOf e).run P w= .ok sz w)(hd:Nat.blt d n=true)(hx:od L x=some (.slice a m c))
  (hy:od L y=some (.int .i64 p)) (hp:p=i) (h1:i≤m)
  (next:R P n ops Q rest ((d,.slice (if c=i then a else a.map (·.add (i*sz))) (m-i)<|c-i)::L) ds w):R P n ops Q (⟨some d,.slice t x (some y) none none,ty,ps,af,none⟩::rest) L ds w :=
 cP hd (fun b hb=>by
  subst hp;simp[execOp,hb.eval hx,hb.eval hy,Instr.sliceAt,Instr.slice,run_underlying hU,Instr.sliceBounds,Instr.sliceBound,asIntOf,hS,h1]) next
theorem BW {d:Nat}{t e:TypeId}{x z:Operand}{a:Option Addr}{m c sz j:Nat}{q:Int}(hU:P.underlying t=some (.slice e))(hS:∀w,(Go.sizeOf e).run P w= .ok sz w)(hd:Nat.blt d n=true)(hx:od L x=some (.slice a m c))
  (hz:od L z=some (.int .i64 q)) (hq:q=j) (h2:j≤c)
  (next:R P n ops Q rest ((d,.slice a j c)::L) ds w):R P n ops Q (⟨some d,.slice t x none (some z) none,ty,ps,af,none⟩::rest) L ds w :=
 cP hd (fun b hb=>by
  subst hq;simp[execOp,hb.eval hx,hb.eval hz,Instr.sliceAt,Instr.slice,run_underlying hU,Instr.sliceBounds,Instr.sliceBound,asIntOf,hS,h2];cases a<;>simp[Addr.add]) next
theorem aU.part {α:Type}{lim:Nat}{E:PH→α→List Value→Prop}{sz:Nat}{a:Option Addr}{m c i j:Nat}{xs:List α}(h:aU lim E sz G (.slice a m c) xs)(h1:i≤j)(h2:j≤xs.length) :
  aU lim E sz G (.slice (if c=i then a else a.map (·.add (i*sz))) (j-i)<|c-i) ((xs.drop i).take<|j-i):=by
 obtain⟨a',c',g1,g2,g3,g4⟩:=h;simp only[Value.slice.injEq]at g1;obtain⟨rfl,rfl,rfl⟩:=g1;have hlen:((xs.drop i).take<|j-i).length=j-i:=by simp;omega
 refine⟨(if c=i then a else a.map (·.add (i*sz))),c-i,by rw[hlen],by omega,by omega,?_⟩;rcases g4 with rfl|⟨b,o,rfl,g5⟩
 ·left;simp
 ·by_cases hc:c=i
  ·right;refine⟨b,o,by simp[hc],fun k x hx=>?_⟩;have:=(List.getElem?_eq_some_iff.1 hx).1;omega
  ·right;refine⟨b,o+i*sz,by simp[hc,Addr.add_lit],fun k x hx=>?_⟩;simp only[List.getElem?_take,List.getElem?_drop]at hx;split at hx
   ·obtain⟨cs,k1,k2,k3⟩:=g5 (i+k) x hx;refine⟨cs,k1,k2,?_⟩;rw[show o+i*sz+k*sz=o+(i+k)*sz by rw[Nat.add_mul];omega];exact k3
   ·cases hx
theorem aU.take {α:Type}{lim:Nat}{E:PH→α→List Value→Prop}{sz:Nat}{a:Option Addr}{m c j:Nat}{xs:List α}(h:aU lim E sz G (.slice a m c) xs)(h2:j≤xs.length):aU lim E sz G (.slice a j c) (xs.take j):=by
 obtain⟨a',c',g1,g2,g3,g4⟩:=h;simp only[Value.slice.injEq]at g1;obtain⟨rfl,rfl,rfl⟩:=g1;have hlen:(xs.take j).length=j:=by simp;omega
 refine⟨a,c,by rw[hlen],by omega,by omega,?_⟩;rcases g4 with rfl|⟨b,o,rfl,g5⟩
 ·left;simp
 ·right;refine⟨b,o,rfl,fun k x hx=>?_⟩;simp only[List.getElem?_take]at hx;split at hx
  ·exact g5 k x hx
  ·cases hx
end ops
class ik {α:Type} (E:PH→α→List Value→Prop):Prop where
 up:∀{G G':PH} {x:α} {cs:List Value},an G G'→E G x cs→E G' x cs
theorem aU.up {α:Type}{lim:Nat}{E:PH→α→List Value→Prop} [ik E] {sz:Nat}{G G':PH}{v:Value}{xs:List α}(h:aU lim E sz G v xs)(hle:an G G'):aU lim E sz G' v xs:=h.mono (fun _ _=>ik.up hle) hle
theorem ay.up {α:Type}{E:PH→α→List Value→Prop} [ik E] {sz:Nat}{G G':PH}{c:List Value}{xs:List α}(h:ay E sz G c xs)(hle:an G G'):ay E sz G' c xs:=h.mono<|fun _ _=>ik.up hle
theorem fw.up {G G':PH}{b o:Nat}{l:List Value}(h:fw G b o l)(hle:an G G'):fw G' b o l:=h.mono hle
abbrev Bs:=List UInt8
structure ao where
 id:Int
 bytes:List Int
 bh:Int
structure aj where
 path:Bs
 dir:Bool
 ids:List Int
structure o8 where
 store:List ao
 tree:List aj
structure cG where
 name:Bs
 tree:List aj
structure aK where
 store:List ao
 tree:List aj
 aw:List cG
def c8:PH→Int→List Value→Prop:=fun _ x cs=>cs=[.int .i64 x]∧dH x
def ue:PH→UInt8→List Value→Prop:=fun _ x cs=>cs=[.int .u8 x.toNat]
def dJ:PH→Bs→List Value→Prop:=fun _ x cs=>cs=[str x]∧x.length≤16777216
abbrev dv:=aU iN c8 1
abbrev kA:=aU iN dJ 1
abbrev o9:=aU iN ue 1
def dx:PH→ao→List Value→Prop:=fun G x cs=>∃a m c,cs=[.int .i64 x.id,.slice a m c,.int .i64 x.bh]∧dH x.id∧dv G (.slice a m c) x.bytes∧dH x.bh
def dn:PH→aj→List Value→Prop:=fun G x cs=>∃a m c,cs=[str x.path,.bool x.dir,.slice a m c]∧x.path.length≤16777216∧dv G (.slice a m c) x.ids
abbrev di:=aU iN dx 3
abbrev cL:=aU iN dn 3
def iK:PH→cG→List Value→Prop:=fun G x cs=>∃a m c,cs=[str x.name,.slice a m c]∧x.name.length≤16777216∧cL G (.slice a m c) x.tree
abbrev gx:=aU iN iK 2
def Kw:PH→o8→List Value→Prop:=fun G x cs=>∃a m c a' m' c',cs=[.slice a m c,.slice a' m' c']∧di G (.slice a m c) x.store∧cL G (.slice a' m' c') x.tree
def eA:PH→aK→List Value→Prop:=fun G x cs=>∃a m c a' m' c' qE pA qH,cs=[.slice a m c,.slice a' m' c',.slice qE pA qH]∧di G (.slice a m c) x.store∧cL G (.slice a' m' c') x.tree∧gx G (.slice qE pA qH) x.aw
def FQ:PH→List Int→List Value→Prop:=fun G x cs=>∃a m c,cs=[.slice a m c]∧dv G (.slice a m c) x
instance:ik c8:=⟨fun _ h=>h⟩
instance:ik ue:=⟨fun _ h=>h⟩
instance:ik dJ:=⟨fun _ h=>h⟩
instance:ik dx:=⟨fun hle ⟨a,m,c,h1,h2,h3,h4⟩=>⟨a,m,c,h1,h2,h3.up hle,h4⟩⟩
instance:ik dn:=⟨fun hle ⟨a,m,c,h1,h2,h3⟩=>⟨a,m,c,h1,h2,h3.up hle⟩⟩
instance:ik iK:=⟨fun hle ⟨a,m,c,h1,h2,h3⟩=>⟨a,m,c,h1,h2,h3.up hle⟩⟩
instance:ik Kw:=⟨fun hle ⟨a,m,c,a',m',c',h1,h2,h3⟩=>⟨a,m,c,a',m',c',h1,h2.up hle,h3.up hle⟩⟩
instance:ik eA:=⟨fun hle ⟨a,m,c,a',m',c',qE,pA,qH,h1,h2,h3,h4⟩=>⟨a,m,c,a',m',c',qE,pA,qH,h1,h2.up hle,h3.up hle,h4.up hle⟩⟩
instance:ik FQ:=⟨fun hle ⟨a,m,c,h1,h2⟩=>⟨a,m,c,h1,h2.up hle⟩⟩
theorem dx.mk {G:PH}{x:ao}{a m c}(h1:dH x.id)(h2:dv G (.slice a m c) x.bytes)(h3:dH x.bh):dx G x [.int .i64 x.id,.slice a m c,.int .i64 x.bh]:=⟨a,m,c,rfl,h1,h2,h3⟩
theorem dn.mk {G:PH}{x:aj}{a m c}(h1:x.path.length≤16777216)(h2:dv G (.slice a m c) x.ids):dn G x [str x.path,.bool x.dir,.slice a m c]:=⟨a,m,c,rfl,h1,h2⟩
theorem aU.len {α:Type}{lim:Nat}{E:PH→α→List Value→Prop}{sz:Nat}{G:PH}{a:Option Addr}{m c:Nat}{xs:List α}(h:aU lim E sz G (.slice a m c) xs):m=xs.length:=by
 obtain⟨_,_,h1,_⟩:=h;simp only[Value.slice.injEq]at h1;exact h1.2.1
theorem aU.cap {α:Type}{lim:Nat}{E:PH→α→List Value→Prop}{sz:Nat}{G:PH}{a:Option Addr}{m c:Nat}{xs:List α}(h:aU lim E sz G (.slice a m c) xs):xs.length≤c:=by
 obtain⟨_,_,h1,h2,_⟩:=h;simp only[Value.slice.injEq]at h1;obtain⟨rfl,rfl,rfl⟩:=h1;exact h2
def b8 (w:World)(v:Value):Ending→World→Prop:=fun e w'=>e= .returned v∧Ext w w'
def jA (w:World)(G:PH)(φ:PH→Value→Prop):Ending→World→Prop:=fun e w'=>∃G' v,Grow w G w' G'∧e= .returned v∧φ G' v
def iy (w:World)(G:PH)(φ:PH→Value→aW→Prop):Ending→World→Prop:=fun e w'=>∃G' v r,Grow w G w' G'∧e= .returned v∧φ G' v r∧r.pred (fun b=>w'.heap[b]?)∧(∀b,b ∈ r.fp→w.heap.size≤b∧G' b=none)∧r.fp.Nodup
theorem Hp.cF {w0 G0 S w G B w' G'}(H:Hp w0 G0 S w G B){r:aW}(g:Grow w G w' G')(h1:r.pred (fun b=>w'.heap[b]?))(h2:∀b,b ∈ r.fp→w.heap.size≤b∧G' b=none)(h3:r.fp.Nodup):Hp w0 G0 S w' G' (r::B):=by
 have H':=H.grow g;refine⟨H'.os,H'.tape,H'.output,H'.size,H'.ext,H'.sub,H'.le,H'.cO,?_,?_⟩
 ·intro r' zn;rcases List.mem_cons.1 zn with rfl|zn
  ·exact⟨h1,fun b hb=>⟨(h2 b hb).2,.inr<|Nat.le_trans H.size (h2 b hb).1⟩⟩
  ·exact H'.own r' zn
 ·show(r.fp++aV B).Nodup;refine List.nodup_append.2 ⟨h3,H.nd,?_⟩;intro a ha b hb e;subst e;have:=(h2 a ha).1;have:=H.lt hb;omega
theorem Hp.bO {w0 w:World}{G0 G:PH}{B:List aW}{k:Nat}{r:aW}{φ:PH→Value→aW→Prop}{v:Value}(H:Hp w0 G0 [] w G B)(hk:nth B k=some r)(hφ:φ G v r)(hn:r.fp.Nodup):iy w0 G0 φ (.returned v) w:=by
 have hr:=H.own r<|eO hk;exact⟨G,v,r,H.abw,rfl,hφ,hr.1,fun b hb=>⟨by rcases (hr.2 b hb).2 with h|h;(· simp at h);exact h,(hr.2 b hb).1⟩,hn⟩
theorem Hp.dD {w0 w:World}{G0 G:PH}{B:List aW}{φ:PH→Value→Prop}{v:Value}(H:Hp w0 G0 [] w G B)(hφ:φ G v):jA w0 G0 φ (.returned v) w:=⟨G,v,H.abw,rfl,hφ⟩
theorem Hp.cg {w0 w:World}{G0 G:PH}{B:List aW}{v v':Value}(H:Hp w0 G0 [] w G B)(e:v=v'):b8 w0 v' (.returned v) w:=⟨by rw[e],H.Kl⟩
theorem wrap_u8 {x:Int}(h:0≤x∧x≤255):IntKind.u8.wrap x=x:=by
 simp only[IntKind.wrap,IntKind.bits,IntKind.signed];simp;omega
theorem wrap_u64 {x:Int}(h:0≤x∧x≤18446744073709551615):IntKind.u64.wrap x=x:=by
 simp only[IntKind.wrap,IntKind.bits,IntKind.signed];simp;omega
section
variable {w0:World} {G0:PH} {S:List Nat} {w:World} {G:PH} {B:List aW}
theorem Hg {α:Type}{E:PH→α→List Value→Prop} [ik E] {e:TypeId}{sz:Nat}{v:Value}{n:Nat}{cells:List Value}{xs:List α}{G':PH}(hp:(acc e sz v n cells).pred G')(hc:ay E sz G' cells xs)(hn:n=xs.length)(hl:xs.length≤1099511627776):aU iN E sz G' v xs:=by
 obtain⟨h1,h2⟩:=hp;subst hn;rcases h2 with ⟨rfl,h2⟩|⟨b,cap,C,rfl,h3,h4,h5,h6,h7⟩
 ·have:xs=[]:=List.eq_nil_of_length_eq_zero h2;subst this;exact aU.nil E sz _
 ·refine⟨_,_,rfl,h4,hl,.inr ⟨b,0,rfl,fun i x hx=>?_⟩⟩;obtain⟨cs,c1,c2,c3⟩:=hc.get i x hx;refine⟨cs,c1,c2,fun j v hv=>?_⟩;have hj:=c3 j v hv;refine⟨C,e,(0,0),h3,?_⟩;rw[←h7,List.getElem?_take]at hj;split at hj
  ·simpa using hj
  ·cases hj
theorem Hp.cI {α:Type}{E:PH→α→List Value→Prop} [ik E] (H:Hp w0 G0 [] w G B){k:Nat}{e:TypeId}{sz:Nat}{v:Value}{n:Nat}{cells:List Value}{xs:List α}(hk:nth B k=some (acc e sz v n cells))(hc:ay E sz G cells xs)(hn:n=xs.length)(hl:xs.length≤1099511627776) :
  ∃G',Hp w0 G0 [] w G' (ez B k)∧an G G'∧aU iN E sz G' v xs:=by
 obtain⟨H',hp⟩:=H.BL hk (by simp);exact⟨_,H',cW.le _ _ _,Hg hp (hc.up<|cW.le _ _ _) hn hl⟩
theorem Hp.name (H:Hp w0 G0 S w G B){k b:Nat}{l:List Value}{e:TypeId}(hk:nth B k=some (ai b<|cl l e)):∃l',l'=l∧Hp w0 G0 S w G (bq B k<|ai b<|cl l' e):=by
 refine⟨l,rfl,?_⟩;have:bq B k (ai b<|cl l e)=B:=by
  rw[jU];rw[ii]at hk;obtain⟨h1,h2⟩:=List.getElem?_eq_some_iff.1 hk;rw[←h2];exact List.set_getElem_self h1
 rw[this];exact H
theorem Hp.x3 (H:Hp w0 G0 S w G B){k:Nat}{r:aW}(hk:nth B k=some r):Hp w0 G0 S w G (r::ez B k):=by
 obtain⟨B1,B2,h1,_,h3⟩:=pd hk;rw[h3];have hp:List.Perm B (r::(B1++B2)):=by rw[h1];exact List.perm_middle
 refine⟨H.os,H.tape,H.output,H.size,H.ext,H.sub,H.le,H.cO,fun q hq=>H.own q<|hp.mem_iff.2 hq,?_⟩;exact(List.Perm.flatMap_right _ hp).nodup_iff.1 H.nd
theorem Hp.ub {a b:aW}(H:Hp w0 G0 S w G (a::b::B)):Hp w0 G0 S w G (b::a::B):=by
 refine⟨H.os,H.tape,H.output,H.size,H.ext,H.sub,H.le,H.cO,fun r hr=>H.own r (by simp at hr ⊢;rcases hr with h|h|h<;>simp[h]),?_⟩;have:=H.nd;simp only[aV,List.flatMap_cons]at this ⊢;obtain⟨h1,h2,h3⟩:=List.nodup_append.1 this;obtain⟨g1,g2,g3⟩:=List.nodup_append.1 h2;refine List.nodup_append.2 ⟨g1,List.nodup_append.2 ⟨h1,g2,fun x hx y hy e=>h3 x hx y (List.mem_append.2<|.inr hy) e⟩,?_⟩;intro x hx y hy e;rcases List.mem_append.1 hy with h|h
 ·exact h3 y h x (List.mem_append.2<|.inl hx) e.symm
 ·exact g3 x hx y h e
theorem bY {P:Program}(k:Nat)(H:Hp w0 G0 S w G B){t:TypeId}{b o sz:Nat}{l l':List Value}{e:TypeId}(hA:∀w,(isAgg t).run P w= .ok true w)(hS:∀w,(Go.sizeOf t).run P w= .ok sz w)
  (hk:nth B k=some (ai b<|cl l e)) (hl:lit (Ag l o sz)=some l') (r8:Nat.beq l'.length sz=true):(loadVar t ⟨b,o,none⟩).run P w= .ok (.agg l'.toArray) w:=by
 have na:=Nat.eq_of_beq_eq_true r8
 have:=run_loadCells_list (P:=P) w ⟨b,o,none⟩ l' (fun j v hv=>by
  rw[Addr.add_lit];refine pN H hk ?_;obtain rfl:=rj hl;simp only[Ag,List.getElem?_take,List.getElem?_drop]at hv;split at hv
  ·simpa using hv
  ·simp at hv)
 rw[na]at this;simp[loadVar,hA,hS,this]
end
section ops
variable {P:Program} {n:Nat} {ops:Array Oper} {Q:dp} {rest:List Oper} {L:br} {ds:List Deferred} {w:World}
variable {ty:TypeId} {ps:String} {af:Array Edge}
end ops
def bf {α:Type}(E:PH→α→List Value→Prop)(sz:Nat)(e:TypeId)(xs:List α):PH→Value→aW→Prop:=fun G v r=>∃cells,r=acc e sz v xs.length cells∧ay E sz G cells xs
theorem bI (e:TypeId)(sz:Nat)(v:Value)(n:Nat)(c:List Value):(acc e sz v n c).fp.Nodup:=by
 unfold acc;cases v<;>simp;split<;>simp
theorem bf.mk {α:Type}{E:PH→α→List Value→Prop}{sz:Nat}{e:TypeId}{xs:List α}{G:PH}{v:Value}{n:Nat}{cells:List Value}(hn:n=xs.length)(hc:ay E sz G cells xs):bf E sz e xs G v (acc e sz v n cells):=⟨cells,by rw[hn],hc⟩
theorem Hp.aH {w0:World}{G0:PH}{S:List Nat}{w:World}{G:PH}{B:List aW}(H:Hp w0 G0 S w G B){k:Nat}{e:TypeId}{sz:Nat}{v:Value}{n:Nat}{cells:List Value}(hk:nth B k=some (acc e sz v n cells)):∃a c,v= .slice a n c:=by
 obtain⟨_,h⟩:=(H.own _<|eO hk).1;rcases h with ⟨rfl,rfl⟩|⟨b,cap,C,rfl,_⟩
 ·exact⟨_,_,rfl⟩
 ·exact⟨_,_,rfl⟩
def eK (P:Program)(n:Nat)(L:br)(ds:List Deferred)(w:World)(o:Oper)(v:Value):Prop:=∀a,et n L ds a→(execOp a.eval o).run P w= .ok (.value v) w
def Kn (w:World)(G:PH)(B:List aW):Prop:=aE G w∧∀r,r ∈ B→r.pred (fun b=>w.heap[b]?)
theorem Kn.of {w0 G0 S w G B G' B'}(H:Hp w0 G0 S w G' B')(hle:an G G')(hB:∀r,r ∈ B→r ∈ B'):Kn w G B:=⟨fun b o h=>H.sub b o<|hle b o h,fun r hr=>(H.own r<|hB r hr).1⟩
theorem Kn.cell {w:World}{G:PH}{B:List aW}(h:Kn w G B){k b o:Nat}{l:List Value}{e:TypeId}{v:Value}(hk:nth B k=some (ai b<|cl l e))(hv:nth l o=some v):w.cell? ⟨b,o,none⟩=some v:=by
 have:w.heap[b]? = some (cl l e):=h.2 _<|eO hk;rw[ii]at hv;simp[World.cell?,this,hv]
def NP (Q:dp):dp
 | .panic _=>fun _ _=>False
 | e=>Q e
theorem NP.imp {Q:dp}:∀e a w,NP Q e a w→Q e a w:=fun e a w h=>by cases e<;>first|exact h|exact h.elim
section
variable {P:Program} {ops:Array Oper} {Q:dp} {S:World→Prop}
def Ca (ops:Array Oper)(j:Nat):Bool:=match ops[j]? with
 | none=>false
 | some o=>(List.range ops.size).all fun k=>k==j||o.after.any fun e=>Region.binds .any e&&e.on==k
def GA (P:Program)(ops:Array Oper)(Q:dp)(S:World→Prop):Nat→Array Bool→Act→World→Prop
 | 0,ls,a,w=>Region.ready .any ops ls=[]∧Q .normal a w
 | f+1,ls,a,w=>(Region.ready .any ops ls=[]→Q .normal a w) ∧
   ∀i,i ∈ Region.ready .any ops ls→wpOp P ops Q i (fun a' w'=>(Ca ops i=false→S w')∧GA P ops Q S f (ls.setIfInBounds i true) a' w') a w
theorem GA.any:∀(f:Nat) (ls:Array Bool) (a:Act) (w:World),GA P ops Q S f ls a w→wpAny P .any ops Q f ls a w
 | 0,_,_,_,h=>h
 | f+1,_,_,_,h=>⟨h.1,fun i hi=>wpOp_mono (fun _ _ k=>GA.any f _ _ _ k.2)<|h.2 i hi⟩
theorem GA.first {i:Nat}{oi:Oper}{v:Value}(hi:ops[i]? = some oi)(Xi:∀(j:Nat) (o:Oper) cs b,ops[j]? = some o→o.op≠ .select cs b)(hQ:∀c a w,Q (.panic c) (a.put oi.dst v) w→Q (.panic c) a w) :
  ∀(f:Nat) (ls:Array Bool) (a:Act) (w:World),(∀j oj,ops[j]? = some oj→j≠i→ls.getD j true=false→(∀e ∈ oj.after,Region.binds .any e=true→e.on≠i)→oi.apart ops oj=true) →
   i ∈ Region.ready .any ops ls→YieldsIf P ops S oi v a→S w→GA P ops Q S f (ls.setIfInBounds i true) (a.put oi.dst v) w→GA P ops Q S (f+1) ls a w:=by
 intro f;induction f with
 | zero =>
  intro ls a w _ hr hy hS h;refine⟨fun e=>absurd (e▸hr)<|by simp,fun j hj=>?_⟩;rcases Decidable.em (j=i) with rfl|de
  ·exact hy.wpOp hi hS ⟨fun _=>hS,h⟩
  ·exact absurd (h.1▸ready_mono hj de) (by simp)
 | succ f ih =>
  intro ls a w H7 hr hy hS h;refine⟨fun e=>absurd (e▸hr)<|by simp,fun j hj=>?_⟩;rcases Decidable.em (j=i) with rfl|de
  ·exact hy.wpOp hi hS ⟨fun _=>hS,h⟩
  ·obtain⟨Wz,oj,IT,bo⟩:=mem_ready.1 hj;have N7:=(mem_ready.1 hr).1;have ajj:i<ls.size:=by
    rcases Nat.lt_or_ge i ls.size with h'|h'
    ·exact h'
    ·simp[Array.getElem?_eq_none h']at N7
   have ajs:i<ops.size:=(Array.getElem?_eq_some_iff.1 hi).1;have aP:∀e ∈ oj.after,Region.binds .any e=true→e.on≠i:=by
    intro e he hb DZ;have h1:=bo e he hb;rw[DZ]at h1;simp[ajj]at N7 h1;simp[N7]at h1
   have aoR:Ca ops j=false:=by
    simp only[Ca,IT];rw[List.all_eq_false];refine⟨i,by simpa using ajs,?_⟩;simp only[Bool.or_eq_true,beq_iff_eq,not_or,Bool.not_eq_true];refine⟨fun e=>de e.symm,?_⟩;rw[Array.any_eq_false'];intro e he hc;simp only[Bool.and_eq_true,beq_iff_eq]at hc;exact aP e he hc.1 hc.2
   refine wpOp_mono ?_<|wpOp_putIf IT (H7 j oj IT de Wz aP) (fun cs b=>Xi i oi cs b hi) (fun cs b=>Xi j oj cs b IT) hQ hy<|h.2 j<|ready_mono hj de;rintro a' w' ⟨Qj,h1,h2⟩;refine⟨h1,ih (ls.setIfInBounds j true) a' w' ?_ (ready_mono hr<|Ne.symm de) Qj (h1 aoR) ?_⟩
   ·intro k ok hk hki XT akB;refine H7 k ok hk hki ?_ akB;rcases Decidable.em (j=k) with rfl|N_
    ·exact Wz
    ·rw[getD_set_ne true N_]at XT;exact XT
   ·rw[Array.setIfInBounds_comm _ _ de];exact h2
variable {n:Nat} {l:List Oper} {L:br} {ds:List Deferred} {w:World}
def RD (P:Program)(n:Nat)(l:List Oper)(Q:dp)(S:World→Prop)(f:Nat)(ls:Array Bool)(L:br)(ds:List Deferred)(w:World):Prop:=∀a,et n L ds a→S w→GA P l.toArray (NP Q) S f ls a w
def DK (P:Program)(l:List Oper)(Q:dp)(S:World→Prop)(f:Nat)(ls:Array Bool)(i:Nat):dp :=
 Exit.then (fun a w=>(Ca l.toArray i=false→S w)∧GA P l.toArray (NP Q) S f (ls.setIfInBounds i true) a w) (NP Q)
theorem adj {id:Nat}{w0:World}{G0:PH}{SS:List Nat}{G:PH}{B:List aW}(S:World→Prop)(m:Nat)(H:Hp w0 G0 SS w G B)(hm:P.follows .mixedOrders=true)(hl:Nat.beq l.length m=true)(hS:∀w',Hp w0 G0 SS w' G B→S w')
  (h:∀w',Hp w0 G0 SS w' G B→RD P n l Q S m (Array.replicate m false) L ds w'):W P n Q (.region id l.toArray true) L ds w:=by
 intro a ha;have na:=Nat.eq_of_beq_eq_true hl;have H':Hp w0 G0 SS w.drew G B:=H.step<|Ext.drew<|Ext.refl w;have hg:=h w.drew H' a ha<|hS _ H';refine Code.wp_mono (Q:=NP Q) (NP.imp)<|wp_region_any hm ?_;have:l.toArray.size=m:=by simpa using na
 rw[this];exact GA.any _ _ _ _ hg
theorem ac2 (i:Nat){d:Nat}{op:Op}{ty:TypeId}{ps:String}{af:Array Edge}{S:World→Prop}{f:Nat}{ls:Array Bool}{v:Value}(hi:nth l i=some ⟨some d,op,ty,ps,af,none⟩)(hs:Region.noSelect l.toArray=true)
  (hf:Region.free .any l.toArray ls i=true) (hr:(Region.ready .any l.toArray ls).contains i=true) (hd:Nat.blt d n=true) (hv:∀w,S w→eK P n L ds w ⟨some d,op,ty,ps,af,none⟩ v)
  (h:RD P n l Q S f (ls.setIfInBounds i true) ((d,v)::L) ds w):RD P n l Q S (f+1) ls L ds w:=by
 intro a ha hS;have tx:l.toArray[i]? = some ⟨some d,op,ty,ps,af,none⟩:=by rw[ii]at hi;simpa using hi
 exact GA.first tx (Region.noSelect_spec hs) (fun _ _ _ h=>h.elim) f ls a w (Region.free_spec tx hf) (by simpa using hr) (.inl ⟨by simp[Region.wanted],fun w' vP=>hv w' vP a ha⟩) hS<|h _ (ha.put hd v) hS
theorem ac3 (i:Nat){d:Nat}{op:Op}{ty:TypeId}{ps:String}{af:Array Edge}{S:World→Prop}{f:Nat}{ls:Array Bool}{v:Value}{j:Nat}{b:Bool}(hi:nth l i=some ⟨some d,op,ty,ps,af,some (j,b)⟩)(hs:Region.noSelect l.toArray=true)
  (hf:Region.free .any l.toArray ls i=true) (hr:(Region.ready .any l.toArray ls).contains i=true) (hd:Nat.blt d n=true) (hy:∀a,et n L ds a→yielded l.toArray a.tmps j=some b) (hv:∀w,S w→eK P n L ds w ⟨some d,op,ty,ps,af,none⟩ v)
  (h:RD P n l Q S f (ls.setIfInBounds i true) ((d,v)::L) ds w):RD P n l Q S (f+1) ls L ds w:=by
 intro a ha hS;have tx:l.toArray[i]? = some ⟨some d,op,ty,ps,af,some (j,b)⟩:=by rw[ii]at hi;simpa using hi
 exact GA.first tx (Region.noSelect_spec hs) (fun _ _ _ h=>h.elim) f ls a w (Region.free_spec tx hf) (by simpa using hr) (.inl ⟨by simp[Region.wanted,hy a ha],fun w' vP=>hv w' vP a ha⟩) hS<|h _ (ha.put hd v) hS
theorem fN (i:Nat){d:Nat}{op:Op}{ty:TypeId}{ps:String}{af:Array Edge}{S:World→Prop}{f:Nat}{ls:Array Bool}{j:Nat}{b:Bool}(hi:nth l i=some ⟨some d,op,ty,ps,af,some (j,b)⟩)(hs:Region.noSelect l.toArray=true)
  (hf:Region.free .any l.toArray ls i=true) (hr:(Region.ready .any l.toArray ls).contains i=true) (hd:Nat.blt d n=true) (hy:∀a,et n L ds a→yielded l.toArray a.tmps j≠some b)
  (h:RD P n l Q S f (ls.setIfInBounds i true) ((d,undef)::L) ds w):RD P n l Q S (f+1) ls L ds w:=by
 intro a ha hS;have tx:l.toArray[i]? = some ⟨some d,op,ty,ps,af,some (j,b)⟩:=by rw[ii]at hi;simpa using hi
 exact GA.first tx (Region.noSelect_spec hs) (fun _ _ _ h=>h.elim) f ls a w (Region.free_spec tx hf) (by simpa using hr) (.inr ⟨by simp[Region.wanted,hy a ha],rfl⟩) hS<|h _ (ha.put hd undef) hS
def kT (P:Program)(n:Nat)(l:List Oper)(Q:dp)(S:World→Prop)(f:Nat)(ls:Array Bool)(L:br)(ds:List Deferred)(w:World):List Nat→Prop
 | []=>True
 | i::r=>(∃o,nth l i=some o∧R P n l.toArray (DK P l Q S f ls i) [o] L ds w)∧kT P n l Q S f ls L ds w r
theorem kT.cons {S:World→Prop}{f:Nat}{ls:Array Bool}{i:Nat}{r:List Nat}{o:Oper}(hi:nth l i=some o)(h:R P n l.toArray (DK P l Q S f ls i) [o] L ds w)(hr:kT P n l Q S f ls L ds w r):kT P n l Q S f ls L ds w (i::r):=⟨⟨o,hi,h⟩,hr⟩
theorem kT.nil {S:World→Prop}{f:Nat}{ls:Array Bool}:kT P n l Q S f ls L ds w []:=trivial
theorem Hb {S:World→Prop}{f:Nat}{ls:Array Bool}(rs:List Nat)(hr:Region.ready .any l.toArray ls=rs)(de:rs.isEmpty=false)(h:kT P n l Q S f ls L ds w rs):RD P n l Q S (f+1) ls L ds w:=by
 intro a ha _
 have key : ∀ rs, kT P n l Q S f ls L ds w rs → ∀ i, i ∈ rs → wpOp P l.toArray (NP Q) i (fun a' w' => (Ca l.toArray i = false → S w') ∧ GA P l.toArray (NP Q) S f (ls.setIfInBounds i true) a' w') a w := by
  intro rs;induction rs with
  | nil=>intro _ i hi;simp at hi
  | cons j r ih =>
   rintro⟨⟨o,ho,hR⟩,zr⟩ i hi;rcases List.mem_cons.1 hi with rfl|hi
   ·have h1:=hR a ha;have Bk:l.toArray[i]? = some o:=by rw[ii]at ho;simpa using ho
    unfold wpOp;simp only[Bk];simp only[wpList]at h1;split
    ·rename_i hw;rw[if_pos hw]at h1;rcases h1 with h1|⟨h1,a',w',h2⟩
     ·refine .inl ?_;unfold Oper.wp at h1 ⊢;generalize (execOp a.eval o).run P w=r at h1 ⊢;cases r with
      | ok nx w' =>
       cases nx with
       | enter g args =>
        refine Calls.mono h1 fun e w'' he=>?_;cases e with
        | returned u=>exact he
        | panicked c=>exact he
        | outgrown=>exact he
       | _=>exact h1
      | halt x w'=>cases x<;>exact h1
     ·exact .inr ⟨h1,a',w',h2⟩
    ·rename_i hw;rw[if_neg hw]at h1;exact h1
   ·exact ih zr i hi
 refine⟨fun e=>?_,fun i hi=>key rs h i<|hr▸hi⟩;rw[hr]at e;subst e;simp at de
theorem acW {S:World→Prop}{f:Nat}{ls:Array Bool}{i:Nat}(hS:S w)(h:RD P n l Q S f (ls.setIfInBounds i true) L ds w):N n (DK P l Q S f ls i) .normal L ds w:=fun a ha=>⟨fun _=>hS,h a ha hS⟩
theorem ki {S:World→Prop}{f:Nat}{ls:Array Bool}{i:Nat}(ht:Ca l.toArray i=true)(hr:Region.ready .any l.toArray (ls.setIfInBounds i true)=[])(h:N n Q .normal L ds w):N n (DK P l Q S f ls i) .normal L ds w:=fun a ha =>
 ⟨fun e=>by simp[ht]at e,by
  cases f with
  | zero=>exact⟨hr,h a ha⟩
  | succ f=>exact⟨fun _=>h a ha,by rw[hr];simp⟩⟩
theorem ac1 {S:World→Prop}{f:Nat}{ls:Array Bool}(hr:Region.ready .any l.toArray ls=[])(h:N n Q .normal L ds w):RD P n l Q S f ls L ds w:=fun a ha _=>by
 cases f with
 | zero=>exact⟨hr,h a ha⟩
 | succ f=>exact⟨fun _=>h a ha,by rw[hr];simp⟩
end
section SV
variable {P:Program} {n:Nat} {L:br} {ds:List Deferred} {w:World} {ty:TypeId} {ps:String} {af:Array Edge}
theorem awC {d:Nat}{c x y:Operand}{v:Value}(hc:od L c=some (.bool true))(hx:od L x=some v):eK P n L ds w (⟨some d,.pick c x y,ty,ps,af,none⟩) (v) :=
 fun a ha=>by simp[execOp,ha.eval hc,ha.eval hx,asBool]
theorem awB {d:Nat}{c x y:Operand}{v:Value}(hc:od L c=some (.bool false))(hx:od L y=some v):eK P n L ds w (⟨some d,.pick c x y,ty,ps,af,none⟩) (v) :=
 fun a ha=>by simp[execOp,ha.eval hc,ha.eval hx,asBool]
theorem pH {d:Nat}{x y:Operand}{t u:TypeId}{p q:Int}(hx:od L x=some (.int .i64 p))(hy:od L y=some (.int .i64 q))(hr:dH (p+q)):eK P n L ds w (⟨some d,.binOp .add t x y u,ty,ps,af,none⟩) (.int .i64<|p+q) :=
 fun a ha=>by simp[execOp,ha.eval hx,ha.eval hy,binOp,Op.intArith,wrap_i64 hr,eqGuard]
theorem Ku {d:Nat}{x y:Operand}{t u:TypeId}{p q:Int}(hx:od L x=some (.int .i64 p))(hy:od L y=some (.int .i64 q))(hr:dH (p-q)):eK P n L ds w (⟨some d,.binOp .sub t x y u,ty,ps,af,none⟩) (.int .i64<|p-q) :=
 fun a ha=>by simp[execOp,ha.eval hx,ha.eval hy,binOp,Op.intArith,wrap_i64 hr,eqGuard]
theorem Cb {d:Nat}{x y:Operand}{t u:TypeId}{p q:Int}(hx:od L x=some (.int .i64 p))(hy:od L y=some (.int .i64 q))(hr:dH (p*q)):eK P n L ds w (⟨some d,.binOp .mul t x y u,ty,ps,af,none⟩) (.int .i64<|p*q) :=
 fun a ha=>by simp[execOp,ha.eval hx,ha.eval hy,binOp,Op.intArith,wrap_i64 hr,eqGuard]
theorem abK {d:Nat}{x y:Operand}{t u:TypeId}{p q:Int}(hx:od L x=some (.int .i64 p))(hy:od L y=some (.int .i64 q))(hp:0≤p)(hq:0<q)(hr:p≤9223372036854775807):eK P n L ds w (⟨some d,.binOp .quo t x y u,ty,ps,af,none⟩) (.int .i64<|p / q) :=
 fun a ha=>by
  have h1:p.tdiv q=p / q:=Int.tdiv_eq_ediv_of_nonneg hp;have h2:0≤p / q:=Int.ediv_nonneg hp (by omega);have h3:p / q≤p:=Int.ediv_le_self q hp;have h4:dH (p / q):=⟨by omega,by omega⟩;have h5:q≠0:=by omega
  simp[execOp,ha.eval hx,ha.eval hy,binOp,Op.intDiv,h1,wrap_i64 h4,eqGuard,h5]
theorem SQ {d:Nat}{x y:Operand}{t u:TypeId}{k:IntKind}{p q:Int}(hx:od L x=some (.int k p))(hy:od L y=some (.int k q))(hp:0≤p)(hq:0<q):eK P n L ds w (⟨some d,.binOp .rem t x y u,ty,ps,af,none⟩) (.int k<|p % q) :=
 fun a ha=>by
  have h1:p.tmod q=p % q:=Int.tmod_eq_emod_of_nonneg hp;have h5:q≠0:=by omega
  simp[execOp,ha.eval hx,ha.eval hy,binOp,Op.intDiv,h1,eqGuard,h5]
theorem awv {d:Nat}{x y:Operand}{t u:TypeId}{k:IntKind}{p q:Int}(hx:od L x=some (.int k p))(hy:od L y=some (.int k q)):eK P n L ds w (⟨some d,.binOp .lss t x y u,ty,ps,af,none⟩) (.bool<|decide (p<q)) :=
 fun a ha=>by simp[execOp,ha.eval hx,ha.eval hy,binOp,Op.intCmp,eqGuard]
theorem awr {d:Nat}{x y:Operand}{t u:TypeId}{k:IntKind}{p q:Int}(hx:od L x=some (.int k p))(hy:od L y=some (.int k q)):eK P n L ds w (⟨some d,.binOp .leq t x y u,ty,ps,af,none⟩) (.bool<|decide (p≤q)) :=
 fun a ha=>by simp[execOp,ha.eval hx,ha.eval hy,binOp,Op.intCmp,eqGuard]
theorem awo {d:Nat}{x y:Operand}{t u:TypeId}{k:IntKind}{p q:Int}(hx:od L x=some (.int k p))(hy:od L y=some (.int k q)):eK P n L ds w (⟨some d,.binOp .gtr t x y u,ty,ps,af,none⟩) (.bool<|decide (q<p)) :=
 fun a ha=>by simp[execOp,ha.eval hx,ha.eval hy,binOp,Op.intCmp,eqGuard]
theorem awn {d:Nat}{x y:Operand}{t u:TypeId}{k:IntKind}{p q:Int}(hx:od L x=some (.int k p))(hy:od L y=some (.int k q)):eK P n L ds w (⟨some d,.binOp .geq t x y u,ty,ps,af,none⟩) (.bool<|decide (q≤p)) :=
 fun a ha=>by simp[execOp,ha.eval hx,ha.eval hy,binOp,Op.intCmp,eqGuard]
theorem awk {d:Nat}{x y:Operand}{t u:TypeId}{k:IntKind}{p q:Int}(hx:od L x=some (.int k p))(hy:od L y=some (.int k q)):eK P n L ds w (⟨some d,.binOp .eql t x y u,ty,ps,af,none⟩) (.bool<|decide (p=q)) :=
 fun a ha=>by
  rw[show decide (p=q)=(p==q) by rfl];simp[execOp,ha.eval hx,ha.eval hy,binOp,Op.intCmp,eqGuard_at_int]
theorem awy {d:Nat}{x y:Operand}{t u:TypeId}{k:IntKind}{p q:Int}(hx:od L x=some (.int k p))(hy:od L y=some (.int k q)):eK P n L ds w (⟨some d,.binOp .neq t x y u,ty,ps,af,none⟩) (.bool<|!decide (p=q)) :=
 fun a ha=>by
  rw[show(!decide (p=q))=(p !=q) by rfl];simp[execOp,ha.eval hx,ha.eval hy,binOp,Op.intCmp,eqGuard_at_int]
theorem awj {d:Nat}{x y:Operand}{t u:TypeId}{p q:Bool}(hT:P.underlying t=some .bool)(hx:od L x=some (.bool p))(hy:od L y=some (.bool q)):eK P n L ds w (⟨some d,.binOp .neq t x y u,ty,ps,af,none⟩) (.bool<|!(p==q)) :=
 fun a ha=>by simp[execOp,ha.eval hx,ha.eval hy,run_neq_bool _ t p q hT,eqGuard_at_bool]
theorem awA {d:Nat}{x:Operand}{t:TypeId}{p:Bool}(hx:od L x=some (.bool p)):eK P n L ds w (⟨some d,.unOp .not t x,ty,ps,af,none⟩) (.bool<|!p) :=
 fun a ha=>by simp[execOp,ha.eval hx,Op.unary]
theorem awl {d i:Nat}{x:Operand}{vs:Array Value}{v:Value}(hx:od L x=some (.tuple vs))(hv:vs[i]? = some v):eK P n L ds w (⟨some d,.extract x i,ty,ps,af,none⟩) (v) :=
 fun a ha=>by simp[execOp,ha.eval hx,Instr.extract,hv]
theorem SP {d:Nat}{x:Operand}{t:TypeId}{p:List UInt8}(hT:P.underlying t=some .string)(hx:od L x=some (str p)):eK P n L ds w (⟨some d,.call ⟨.builtin .len,#[x],#[t]⟩,ty,ps,af,none⟩) (.int .i64 p.length) :=
 fun a ha=>by simp[execOp,resolve,invoke,builtin,ha.eval hx,run_len_string w t ty _ hT,goInt,qG]
theorem SR {d:Nat}{x y:Operand}{t u:TypeId}{p q:List UInt8}(hx:od L x=some (str p))(hy:od L y=some (str q)):eK P n L ds w (⟨some d,.binOp .neq t x y u,ty,ps,af,none⟩) (.bool<|!decide (p=q)) :=
 fun a ha=>by
  have:(p==q)=decide (p=q):=by rw[Bool.eq_iff_iff];simp
  simp[execOp,ha.eval hx,ha.eval hy,binOp_string_neq,eqGuard_at_string,this]
theorem abM {d:Nat}{x y:Operand}{t u:TypeId}{p q:List UInt8}(hx:od L x=some (str p))(hy:od L y=some (str q)):eK P n L ds w (⟨some d,.binOp .geq t x y u,ty,ps,af,none⟩) (.bool<|!Op.bytesLess p q) :=
 fun a ha=>by simp[execOp,ha.eval hx,ha.eval hy,binOp,Op.stringOp,eqGuard_at_string]
theorem mO {d:Nat}{x y:Operand}{t u:TypeId}{p q:List UInt8}(hx:od L x=some (str p))(hy:od L y=some (str q))(hl:p.length+q.length≤9223372036854775807):eK P n L ds w (⟨some d,.binOp .add t x y u,ty,ps,af,none⟩) (str<|p++q) :=
 fun a ha=>by
  have h1:(p.length:Int)+(q.length:Int)≤9223372036854775807:=by omega
  simp[execOp,ha.eval hx,ha.eval hy,binOp,Op.stringOp,eqGuard_at_string,qG,h1,TA]
theorem awE {d:Nat}{x y z:Operand}{t:TypeId}{p:List UInt8}{i j:Int}(hT:P.underlying t=some .string)(hx:od L x=some (str p))(hy:od L y=some (.int .i64 i))(hz:od L z=some (.int .i64 j))
  (h0:0≤i) (h1:i≤j) (h2:j≤p.length):eK P n L ds w (⟨some d,.slice t x (some y) (some z) none,ty,ps,af,none⟩) (str<|(p.drop i.toNat).take<|j.toNat-i.toNat) :=
 fun a ha=>by
  have:=run_slice_string (P:=P) w t ⟨p.toArray⟩ .i64 .i64 i j hT h0 h1 (by rw[qG];exact h2);simp[execOp,ha.eval hx,ha.eval hy,ha.eval hz,run_sliceAt_string w t _ _ _ _ hT,this,ByteArray.extract_mk]
theorem awF {d:Nat}{x y:Operand}{t:TypeId}{p:List UInt8}{i:Int}(hT:P.underlying t=some .string)(hx:od L x=some (str p))(hy:od L y=some (.int .i64 i))
  (h0:0≤i) (h2:i≤p.length):eK P n L ds w (⟨some d,.slice t x (some y) none none,ty,ps,af,none⟩) (str<|p.drop i.toNat) :=
 fun a ha=>by
  have:=run_slice_string_from_if (P:=P) w t ⟨p.toArray⟩ .i64 i hT;rw[qG,if_pos ⟨h0,h2⟩,ByteArray.extract_mk,List.take_of_length_le<|by simp]at this;simp[execOp,ha.eval hx,ha.eval hy,run_sliceAt_string w t _ _ _ _ hT,this]
theorem abN {d:Nat}{x z:Operand}{t:TypeId}{p:List UInt8}{j:Int}(hT:P.underlying t=some .string)(hx:od L x=some (str p))(hz:od L z=some (.int .i64 j))
  (h0:0≤j) (h2:j≤p.length):eK P n L ds w (⟨some d,.slice t x none (some z) none,ty,ps,af,none⟩) (str<|p.take j.toNat) :=
 fun a ha=>by
  have:=run_slice_string_to_if (P:=P) w t ⟨p.toArray⟩ .i64 j hT;rw[qG,if_pos ⟨h0,h2⟩,ByteArray.extract_mk,List.drop_zero,Nat.sub_zero]at this;simp[execOp,ha.eval hx,ha.eval hz,run_sliceAt_string w t _ _ _ _ hT,this]
theorem SN {d:Nat}{x:Operand}{s t:TypeId}{k k':IntKind}{p:Int}(hs:(P.underlying s).isSome=true)(ht:P.underlying t=some (.int k'))(hx:od L x=some (.int k p))(hw:k'.wrap p=p):eK P n L ds w (⟨some d,.convert s t x,ty,ps,af,none⟩) (.int k' p) :=
 fun a ha=>by
  cases h:P.underlying s with
  | none=>simp[h]at hs
  | some dd=>simp[execOp,ha.eval hx,convert,run_underlying h,run_underlying ht,Conv.intToInt,hw]
theorem awq {d:Nat}{x:Operand}{t e:TypeId}{a:Option Addr}{m c:Nat}(hT:P.underlying t=some (.slice e))(hx:od L x=some (.slice a m c)):eK P n L ds w (⟨some d,.call ⟨.builtin .len,#[x],#[t]⟩,ty,ps,af,none⟩) (.int .i64 m) :=
 fun b hb=>by simp[execOp,resolve,invoke,builtin,hb.eval hx,Builtin.len_,run_underlying hT,goInt]
theorem aww {d:Nat}{x y:Operand}{t:Array TypeId}{p q:Int}(hx:od L x=some (.int .i64 p))(hy:od L y=some (.int .i64 q)):eK P n L ds w (⟨some d,.call ⟨.builtin .min,#[x,y],t⟩,ty,ps,af,none⟩) (.int .i64<|min p q) :=
 fun b hb=>by
  have:(if q<p then q else p)=min p q:=by split<;>omega
  simp[execOp,resolve,invoke,builtin,hb.eval hx,hb.eval hy,Builtin.min_,Builtin.min2,this]
theorem awx {d:Nat}{x:Operand}{v:Value}(hx:od L x=some v):eK P n L ds w (⟨some d,.move x,ty,ps,af,none⟩) (v) :=
 fun a ha=>by simp[execOp,ha.eval hx]
theorem awi {d:Nat}{x:Operand}{v:Value}(hx:od L x=some v):eK P n L ds w (⟨some d,.assign x,ty,ps,af,none⟩) (v) :=
 fun a ha=>by simp[execOp,ha.eval hx]
theorem gD {d:Nat}{t:TypeId}{xs:List (Nat×Operand)}{kO:List (Nat×Value)}{pl:List (Nat×Nat)}{zl l':List Value}(hB:kS P t pl zl)(hx:wi L xs=some kO)(hf:(s3 pl zl kO).bind lit=some l'):eK P n L ds w (⟨some d,.build t xs.toArray,ty,ps,af,none⟩) (.agg l'.toArray) :=
 fun a ha=>by
  obtain⟨l1,D1,qV⟩:=Option.bind_eq_some_iff.1 hf;obtain rfl:=rj qV;have h1:=hB kO l' w D1;have h2:=ha.HC xs kO hx;simp only[execOp];have:(Array.map (fun x:Nat×Operand=>(x.1,a.eval x.2)) xs.toArray)=kO.toArray:=by simp[h2]
  simp[this,h1]
theorem GM {d:Nat}{t e:TypeId}{x y:Operand}{a:Option Addr}{m c sz i:Nat}{p:Int}(hU:P.underlying t=some (.slice e))(hS:∀w,(Go.sizeOf e).run P w= .ok sz w)(hx:od L x=some (.slice a m c))
  (hy:od L y=some (.int .i64 p)) (hp:p=i) (h1:i≤m):eK P n L ds w (⟨some d,.slice t x (some y) none none,ty,ps,af,none⟩) (.slice (if c=i then a else a.map (·.add (i*sz))) (m-i)<|c-i) :=
 fun b hb=>by
  subst hp;simp[execOp,hb.eval hx,hb.eval hy,Instr.sliceAt,Instr.slice,run_underlying hU,Instr.sliceBounds,Instr.sliceBound,asIntOf,hS,h1]
theorem Kt {d:Nat}{t e:TypeId}{x z:Operand}{a:Option Addr}{m c sz j:Nat}{q:Int}(hU:P.underlying t=some (.slice e))(hS:∀w,(Go.sizeOf e).run P w= .ok sz w)(hx:od L x=some (.slice a m c))
  (hz:od L z=some (.int .i64 q)) (hq:q=j) (h2:j≤c):eK P n L ds w (⟨some d,.slice t x none (some z) none,ty,ps,af,none⟩) (.slice a j c) :=
 fun b hb=>by
  subst hq;simp[execOp,hb.eval hx,hb.eval hz,Instr.sliceAt,Instr.slice,run_underlying hU,Instr.sliceBounds,Instr.sliceBound,asIntOf,hS,h2];cases a<;>simp[Addr.add]
theorem abL {d:Nat}{x y:Operand}{t u:TypeId}{p q:List UInt8}(hx:od L x=some (str p))(hy:od L y=some (str q)):eK P n L ds w (⟨some d,.binOp .eql t x y u,ty,ps,af,none⟩) (.bool<|decide (p=q)) :=
 (fun a ha=>by
  have:(p==q)=decide (p=q):=by rw[Bool.eq_iff_iff];simp
  simp[execOp,ha.eval hx,ha.eval hy,binOp_string_eql,eqGuard_at_string,this])
theorem awm (off:Nat){d i:Nat}{t:TypeId}{x:Operand}{b o:Nat}{fields:Array Field}{f:Field}{sz:Nat}(hU:∀w,(underlying t).run P w= .ok (.struct fields) w)(hf:fields[i]? = some f)(hS:∀w,(Go.sizeOf f.type).run P w= .ok (sz+1) w)(ho:Nat.beq f.offset off=true)
  (hx:od L x=some (.pointer<|some ⟨b,o,none⟩)):eK P n L ds w (⟨some d,.fieldAddr t x i,ty,ps,af,none⟩) (.pointer<|some ⟨b,o+off,none⟩):=fun a ha=>by
  have:=Nat.eq_of_beq_eq_true ho;subst this;simp[execOp,Instr.fieldAt,ha.eval hx,Instr.sureAddr,hU,hf,fieldPlace,hS,Addr.add_lit]
theorem awz {d:Nat}{x:Operand}{p:Addr}(hx:od L x=some (.pointer<|some p)):eK P n L ds w (⟨some d,.nilCheck x,ty,ps,af,none⟩) (.pointer<|some p):=fun a ha=>by simp[execOp,ha.eval hx]
theorem awp {d:Nat}{t e:TypeId}{x y:Operand}{b o m c sz i:Nat}{k:Int}(hU:P.underlying t=some (.slice e))(hS:∀w,(Go.sizeOf e).run P w= .ok sz w)(hx:od L x=some (.slice (some ⟨b,o,none⟩) m c))(hy:od L y=some (.int .i64 k))
  (hk:k=(i:Int)) (hi:i<m):eK P n L ds w (⟨some d,.indexAddr t x y,ty,ps,af,none⟩) (.pointer<|some ⟨b,o+i*sz,none⟩):=fun a ha=>by
  subst hk;have e1:(⟨b,o,none⟩:Addr).add (i*sz)=⟨b,o+i*sz,none⟩:=Addr.add_lit b o _;simp[execOp,Instr.indexAt,ha.eval hx,ha.eval hy,asIntOf,run_underlying hU,hS,hi,e1]
theorem awt {G:PH}{B:List aW}(hK:Kn w G B){d:Nat}{t:TypeId}{x:Operand}{b o:Nat}{v:Value}(hA:∀w,(isAgg t).run P w= .ok false w)(hx:od L x=some (.pointer<|some ⟨b,o,none⟩))(hc:oe G b o v) :
  eK P n L ds w (⟨some d,.load t x,ty,ps,af,none⟩) v:=fun a ha=>by
  have:=hc.cell hK.1;simp[execOp,Instr.loadAt,ha.eval hx,Instr.sureAddr,loadVar,hA,this]
theorem awu {G:PH}{B:List aW}(hK:Kn w G B){d:Nat}{t:TypeId}{x:Operand}{b o sz:Nat}{l:List Value}(hA:∀w,(isAgg t).run P w= .ok true w)(hS:∀w,(Go.sizeOf t).run P w= .ok sz w)
  (hx:od L x=some (.pointer<|some ⟨b,o,none⟩)) (hr:fw G b o l) (hl:Nat.beq l.length sz=true):eK P n L ds w (⟨some d,.load t x,ty,ps,af,none⟩) (.agg l.toArray):=fun a ha=>by
  have na:=Nat.eq_of_beq_eq_true hl
  have:=run_loadCells_list (P:=P) w ⟨b,o,none⟩ l (fun j v hv=>by
   have:=(hr j v hv).cell hK.1;rw[Addr.add_lit];exact this)
  rw[na]at this;simp[execOp,Instr.loadAt,ha.eval hx,Instr.sureAddr,loadVar,hA,hS,this]
theorem aws (k:Nat){G:PH}{B:List aW}(hK:Kn w G B){d:Nat}{t:TypeId}{x:Operand}{b o:Nat}{l:List Value}{e:TypeId}{v:Value}(hA:∀w,(isAgg t).run P w= .ok false w)(hx:od L x=some (.pointer<|some ⟨b,o,none⟩))
  (hk:nth B k=some (ai b<|cl l e)) (hv:nth l o=some v):eK P n L ds w (⟨some d,.load t x,ty,ps,af,none⟩) v:=fun a ha=>by
  have:=hK.cell hk hv;simp[execOp,Instr.loadAt,ha.eval hx,Instr.sureAddr,loadVar,hA,this]
theorem ob (k:Nat){G:PH}{B:List aW}(hK:Kn w G B){d:Nat}{t:TypeId}{x:Operand}{b o sz:Nat}{l l':List Value}{e:TypeId}(hA:∀w,(isAgg t).run P w= .ok true w)(hS:∀w,(Go.sizeOf t).run P w= .ok sz w)
  (hx:od L x=some (.pointer<|some ⟨b,o,none⟩)) (hk:nth B k=some (ai b<|cl l e)) (hl:lit (Ag l o sz)=some l') (r8:Nat.beq l'.length sz=true):eK P n L ds w (⟨some d,.load t x,ty,ps,af,none⟩) (.agg l'.toArray):=fun a ha=>by
  have na:=Nat.eq_of_beq_eq_true r8
  have:=run_loadCells_list (P:=P) w ⟨b,o,none⟩ l' (fun j v hv=>by
   rw[Addr.add_lit];obtain rfl:=rj hl;simp only[Ag,List.getElem?_take,List.getElem?_drop]at hv;split at hv
   ·exact hK.cell hk (by rw[ii];exact hv)
   ·simp at hv)
  rw[na]at this;simp[execOp,Instr.loadAt,ha.eval hx,Instr.sureAddr,loadVar,hA,hS,this]
end SV
theorem ac0 {P:Program}{n:Nat}{l:List Oper}{Q:dp}{S:World→Prop}{f:Nat}{ls:Array Bool}{L:br}{ds:List Deferred}{w:World}{t:Nat}{b:Bool}(hv:lk L t=some (.bool b))(ht:b=true→RD P n l Q S f ls ((t,.bool true)::L) ds w)(hf:b=false→RD P n l Q S f ls ((t,.bool false)::L) ds w):RD P n l Q S f ls L ds w:=by
 intro a ha;cases b with
 | true=>exact ht rfl a<|ha.same hv
 | false=>exact hf rfl a<|ha.same hv
def bS:List Nat→List aW→List aW
 | [],_=>[]
 | k::r,B=>match nth B k with
  | none=>bS r B
  | some x=>x::bS r B
theorem Sl:∀{ks:List Nat} {B:List aW} {r:aW},r ∈ bS ks B→r ∈ B
 | [],B,r,h=>by simp[bS]at h
 | k::ks,B,r,h=>by
  simp only[bS]at h;cases hk:nth B k with
  | none=>simp only[hk]at h;exact Sl h
  | some x =>
   simp only[hk,List.mem_cons]at h;rcases h with rfl|h
   ·exact eO hk
   ·exact Sl h
inductive gy:List aW→List aW→Prop
 | nil {B}:gy [] B
 | cons {r B' B} (k:Nat) (hk:nth B k=some r) (h:gy B' B):gy (r::B') B
theorem gy.mem {B' B:List aW}(h:gy B' B):∀r,r ∈ B'→r ∈ B:=by
 induction h with
 | nil=>intro r h;simp at h
 | cons k hk h ih =>
  intro r hr;rcases List.mem_cons.1 hr with rfl|hr
  ·exact eO hk
  ·exact ih r hr
theorem Kn.of' {w0 G0 S w G G' B' Bs}(H:Hp w0 G0 S w G' B')(hle:an G G')(hs:gy Bs B'):Kn w G Bs:=Kn.of H hle hs.mem
theorem cw {P:Program}{n:Nat}{l:List Oper}{Q:dp}{L:br}{ds:List Deferred}{w:World}{id:Nat}{w0:World}{G0:PH}{SS:List Nat}{G:PH}{B:List aW}(ks:List Nat)(m:Nat)(H:Hp w0 G0 SS w G B)(hm:P.follows .mixedOrders=true)(hl:Nat.beq l.length m=true)
  (h:∀w',Hp w0 G0 SS w' G B→RD P n l Q (fun w=>Kn w G<|bS ks B) m (Array.replicate m false) L ds w'):W P n Q (.region id l.toArray true) L ds w :=
 adj _ m H hm hl (fun _ H'=>Kn.of H' (an.refl G)<|fun _ hr=>Sl hr) h
section SV
variable {P:Program} {n:Nat} {L:br} {ds:List Deferred} {w:World} {ty:TypeId} {ps:String} {af:Array Edge}
theorem SO {a:Option Addr}{b o:Nat}(ha':a=some ⟨b,o,none⟩){d:Nat}{t e:TypeId}{x y:Operand}{m c sz i:Nat}{k:Int}(hU:P.underlying t=some (.slice e))(hS:∀w,(Go.sizeOf e).run P w= .ok sz w)(hx:od L x=some (.slice a m c))(hy:od L y=some (.int .i64 k))
  (hk:k=(i:Int)) (hi:i<m):eK P n L ds w (⟨some d,.indexAddr t x y,ty,ps,af,none⟩) (.pointer<|some ⟨b,o+i*sz,none⟩):=awp hU hS (ha'▸hx) hy hk hi
end SV
theorem Sn (n:Nat):∀(vs:List Value) (l:List Value) (o:Nat),(ee l o vs).take n=ee (l.take n) o vs
 | [],l,o=>rfl
 | v::r,l,o=>by
  simp only[ee,jU];have:=Sn n r (l.set o v)<|o+1;rw[this,List.take_set]
theorem aa3:∀(vs a b:List Value) (o:Nat),o+vs.length≤a.length→ee (a++b) o vs=ee a o vs++b
 | [],a,b,o,_=>rfl
 | v::r,a,b,o,h=>by
  simp only[List.length_cons]at h;simp only[ee,jU];rw[List.set_append_left _ _<|by omega,aa3 r (a.set o v) b (o+1)<|by simp;omega]
theorem aa5:∀(vs a b:List Value) (o:Nat),ee (a++b) (a.length+o) vs=a++ee b o vs
 | [],a,b,o=>rfl
 | v::r,a,b,o=>by
  simp only[ee,jU];rw[List.set_append_right _ _<|by omega,show a.length+o-a.length=o by omega,show a.length+o+1=a.length+(o+1) by omega,aa5 r a (b.set o v)<|o+1]
theorem Sm {sz off:Nat}{vs:List Value}(ho:off+vs.length≤sz):∀(bu:List (List Value)) (i:Nat) (cs:List Value),(∀c ∈ bu,c.length=sz)→bu[i]? = some cs→ee bu.flatten (i*sz+off) vs=(bu.set i<|ee cs off vs).flatten
 | [],i,cs,_,h=>by simp at h
 | c::r,0,cs,hl,h=>by
  simp at h;subst h;have:=hl c (by simp);simp only[List.flatten_cons,Nat.zero_mul,Nat.zero_add,List.set_cons_zero];exact aa3 vs c r.flatten off (by omega)
 | c::r,i+1,cs,hl,h=>by
  have hc:=hl c (by simp);simp only[List.flatten_cons,List.set_cons_succ];rw[←Sm ho r i cs (fun d hd=>hl d<|by simp[hd])<|by simpa using h,←aa5,hc];congr 1;rw[Nat.add_mul];omega
section sX
variable {α:Type} {E:PH→α→List Value→Prop} {sz:Nat} {G:PH}
theorem ay.put {c:List Value}{xs:List α}(h:ay E sz G c xs){i off:Nat}{x x':α}{vs:List Value}(hx:xs[i]? = some x)(hE:∀cs,cs.length=sz→E G x cs→E G x' (ee cs off vs))(ho:off+vs.length≤sz):ay E sz G (ee c (i*sz+off) vs) (xs.set i x'):=by
 obtain⟨bu,rfl,h2,h3⟩:=h;obtain⟨cs,k1,k2,k3⟩:=h3 i x hx;have D7:i<bu.length:=(List.getElem?_eq_some_iff.1 k1).1;refine⟨bu.set i<|ee cs off vs,?_,by simp[h2],?_⟩
 ·refine Sm ho bu i cs ?_ k1;intro c hc;obtain⟨j,hj⟩:=List.getElem?_of_mem hc;have ig:=(List.getElem?_eq_some_iff.1 hj).1;obtain⟨eR,e1,e2,_⟩:=h3 j xs[j] (by simp);rw[hj]at e1;simp at e1;rw[e1];exact e2
 ·intro j y hy;rw[List.getElem?_set]at hy;rw[List.getElem?_set];by_cases ph:i=j
  ·subst ph;rw[if_pos rfl,if_pos<|by omega]at hy;simp only[Option.some.injEq]at hy;subst hy;rw[if_pos rfl,if_pos D7];exact⟨_,rfl,by rw[v_];exact k2,hE cs k2 k3⟩
  ·rw[if_neg ph]at hy;rw[if_neg ph];exact h3 j y hy
theorem ay.J1 {c:List Value}{xs:List α}(h:ay E sz G c xs)(hE:∀z cs,E G z cs→∀u ∈ cs,u.oneCell'=true):∀u ∈ c,u.oneCell'=true:=by
 obtain⟨bu,rfl,h2,h3⟩:=h;intro u hu;obtain⟨cs,r3,hu⟩:=List.mem_flatten.1 hu;obtain⟨j,hj⟩:=List.getElem?_of_mem r3;have ig:=(List.getElem?_eq_some_iff.1 hj).1;obtain⟨eR,e1,_,e3⟩:=h3 j xs[j] (by simp);rw[hj]at e1;simp at e1;subst e1;exact hE _ _ e3 u hu
theorem U7 {sz:Nat}:∀(bu:List (List Value)) (k:Nat),(∀c ∈ bu,c.length=sz)→bu.flatten.take (k*sz)=(bu.take k).flatten
 | [],k,_=>by simp
 | c::r,0,_=>by simp
 | c::r,k+1,h=>by
  have hc:=h c (by simp);simp only[List.flatten_cons,List.take_succ_cons];rw[show(k+1)*sz=c.length+k*sz by rw[Nat.add_mul];omega,List.take_length_add_append,U7 r k<|fun d hd=>h d<|by simp[hd]]
theorem U6 {sz:Nat}:∀(bu:List (List Value)) (k:Nat),(∀c ∈ bu,c.length=sz)→bu.flatten.drop (k*sz)=(bu.drop k).flatten
 | [],k,_=>by simp
 | c::r,0,_=>by simp
 | c::r,k+1,h=>by
  have hc:=h c (by simp);simp only[List.flatten_cons,List.drop_succ_cons];rw[show(k+1)*sz=c.length+k*sz by rw[Nat.add_mul];omega,List.drop_length_add_append,U6 r k<|fun d hd=>h d<|by simp[hd]]
theorem ay.GK {bu:List (List Value)}{xs:List α}(h2:bu.length=xs.length)(h3:∀(i:Nat) (x:α),xs[i]? = some x→∃cs,bu[i]? = some cs∧cs.length=sz∧E G x cs):∀c ∈ bu,c.length=sz:=by
 intro c hc;obtain⟨j,hj⟩:=List.getElem?_of_mem hc;have ig:=(List.getElem?_eq_some_iff.1 hj).1;obtain⟨eR,e1,e2,_⟩:=h3 j xs[j] (by simp);rw[hj]at e1;simp at e1;rw[e1];exact e2
theorem ay.abr {c:List Value}{xs:List α}(h:ay E sz G c xs)(k:Nat):ay E sz G (c.take<|k*sz) (xs.take k):=by
 obtain⟨bu,rfl,h2,h3⟩:=h;refine⟨bu.take k,U7 bu k<|ay.GK h2 h3,by simp[h2],fun i x hx=>?_⟩;rw[List.getElem?_take]at hx ⊢;split at hx
 ·rename_i ef;rw[if_pos ef];exact h3 i x hx
 ·cases hx
theorem ay.Uz {c:List Value}{xs:List α}(h:ay E sz G c xs)(k:Nat):ay E sz G (c.drop<|k*sz) (xs.drop k):=by
 obtain⟨bu,rfl,h2,h3⟩:=h;refine⟨bu.drop k,U6 bu k<|ay.GK h2 h3,by simp[h2],fun i x hx=>?_⟩;rw[List.getElem?_drop]at hx ⊢;exact h3 _ x hx
end sX
theorem Hp.nameAt {w0 G0 S w G B}(H:Hp w0 G0 S w G B){k b off:Nat}{l:List Value}{e:TypeId}{x:Value}(hk:nth B k=some (ai b<|cl l e))(hx:nth l off=some x):∃l',l'=l∧Hp w0 G0 S w G (bq B k<|ai b<|cl (bq l' off x) e):=by
 refine⟨l,rfl,?_⟩;have h1:bq l off x=l:=by
  rw[jU];rw[ii]at hx;obtain⟨h1,h2⟩:=List.getElem?_eq_some_iff.1 hx;rw[←h2];exact List.set_getElem_self h1
 obtain⟨l',e1,H'⟩:=H.name hk;subst e1;rw[h1];exact H'
section ops
variable {P:Program} {n:Nat} {ops:Array Oper} {Q:dp} {rest:List Oper} {L:br} {ds:List Deferred} {w w0:World} {G0:PH} {S:List Nat} {G:PH} {B:List aW}
variable {ty:TypeId} {ps:String} {af:Array Edge}
theorem Hp.Cl (H:Hp w0 G0 S w G B){k:Nat}{e:TypeId}{sz n i:Nat}{v:Value}{cells:List Value}(hk:nth B k=some (acc e sz v n cells))(hi:i<n) :
  ∃b cap C,v= .slice (some ⟨b,0,none⟩) n cap∧w.heap[b]? = some (.cells C e (0,0))∧n≤cap∧cap≤maxLen∧cap*sz≤C.size∧C.toList.take (n*sz)=cells:=by
 obtain⟨_,h⟩:=(H.own _<|eO hk).1;rcases h with ⟨_,rfl⟩|h
 ·omega
 ·exact h
theorem Hp.jK (H:Hp w0 G0 S w G B){k:Nat}{e:TypeId}{sz n m c:Nat}{a:Option Addr}{cells:List Value}(hk:nth B k=some (acc e sz (.slice a m c) n cells)):m=n∧n≤c:=by
 obtain⟨_,h⟩:=(H.own _<|eO hk).1;rcases h with ⟨h,rfl⟩|⟨b,cap,C,h,_,h3,_⟩
 ·simp only[Value.slice.injEq]at h;omega
 ·simp only[Value.slice.injEq]at h;omega
theorem lO {α:Type}{E:PH→α→List Value→Prop}(k:Nat)(H:Hp w0 G0 S w G B)(i:Nat){d:Nat}{t e:TypeId}{x y:Operand}{a:Option Addr}{m c sz:Nat}{xs:List α}{cells:List Value}{p:Int}
  (hk:nth B k=some (acc e sz (.slice a m c) m cells)) (hc:ay E sz G cells xs) (hU:P.underlying t=some (.slice e)) (hS:∀w,(Go.sizeOf e).run P w= .ok sz w)
  (hd:Nat.blt d n=true) (hx:od L x=some (.slice a m c)) (hy:od L y=some (.int .i64 p)) (hp:p=(i:Int)) (hi:i<xs.length) (hm:m=xs.length)
  (next:∀b z cs,a=some ⟨b,0,none⟩→xs[i]? = some z→E G z cs→(∀j v,cs[j]? = some v→cells[i*sz+j]? = some v)→R P n ops Q rest ((d,.pointer<|some ⟨b,i*sz,none⟩)::L) ds w):R P n ops Q (⟨some d,.indexAddr t x y,ty,ps,af,none⟩::rest) L ds w:=by
 obtain⟨b,cap,C,h1,h2,h3,h4,h5,h6⟩:=H.Cl hk (i:=i) (by omega);simp only[Value.slice.injEq]at h1;obtain⟨rfl,_,rfl⟩:=h1;obtain⟨cs,c1,c2,c3⟩:=hc.get i xs[i] (by simp);refine Z5 hU hS hd hx hy hp (by omega) ?_;rw[Nat.zero_add];exact next b xs[i] cs rfl (by simp) c2 c3
theorem wM (H:Hp w0 G0 S w G B){k:Nat}{e:TypeId}{sz m c b n o:Nat}{cells:List Value}{v:Value}(hk:nth B k=some (acc e sz (.slice (some ⟨b,0,none⟩) m c) n cells))(hv:cells[o]? = some v):w.cell? ⟨b,o,none⟩=some v:=by
 obtain⟨h0,h⟩:=(H.own _<|eO hk).1;rcases h with ⟨h,_⟩|⟨b',cap,C,h1,h2,h3,h4,h5,h6⟩
 ·cases h
 ·simp only[Value.slice.injEq,Option.some.injEq,Addr.mk.injEq]at h1;obtain⟨⟨rfl,_⟩,_⟩:=h1;subst h6;rw[List.getElem?_take]at hv;split at hv
  ·simp only[World.cell?,h2];simpa using hv
  ·cases hv
theorem sF (k:Nat)(H:Hp w0 G0 S w G B){d:Nat}{t:TypeId}{x:Operand}{b o m c q:Nat}{e:TypeId}{sz:Nat}{cells:List Value}{v:Value}(hA:∀w,(isAgg t).run P w= .ok false w)(hd:Nat.blt d n=true)(hx:od L x=some (.pointer<|some ⟨b,o,none⟩))
  (hk:nth B k=some (acc e sz (.slice (some ⟨b,0,none⟩) m c) q cells)) (hv:cells[o]? = some v) (next:R P n ops Q rest ((d,v)::L) ds w):R P n ops Q (⟨some d,.load t x,ty,ps,af,none⟩::rest) L ds w :=
 cP hd (fun a ha=>by
  have:=wM H hk hv;simp[execOp,Instr.loadAt,ha.eval hx,Instr.sureAddr,loadVar,hA,this]) next
theorem RO (k:Nat)(H:Hp w0 G0 S w G B){d:Nat}{t:TypeId}{x:Operand}{b o m c q B_:Nat}{e:TypeId}{sz:Nat}{cells l:List Value}(hA:∀w,(isAgg t).run P w= .ok true w)(hS:∀w,(Go.sizeOf t).run P w= .ok B_ w)(hd:Nat.blt d n=true)(hx:od L x=some (.pointer<|some ⟨b,o,none⟩))
  (hk:nth B k=some (acc e sz (.slice (some ⟨b,0,none⟩) m c) q cells)) (hv:∀j v,l[j]? = some v→cells[o+j]? = some v) (hl:Nat.beq l.length B_=true) (next:R P n ops Q rest ((d,.agg l.toArray)::L) ds w):R P n ops Q (⟨some d,.load t x,ty,ps,af,none⟩::rest) L ds w :=
 cP hd (fun a ha=>by
  have na:=Nat.eq_of_beq_eq_true hl
  have:=run_loadCells_list (P:=P) w ⟨b,o,none⟩ l (fun j v hj=>by
   rw[Addr.add_lit];exact wM H hk<|hv j v hj)
  rw[na]at this;simp[execOp,Instr.loadAt,ha.eval hx,Instr.sureAddr,loadVar,hA,hS,this]) next
theorem BY (k:Nat)(H:Hp w0 G0 S w G B){t:TypeId}{x y:Operand}{b o m c q B_:Nat}{e:TypeId}{sz:Nat}{cells:List Value}{v:Value}(hS:∀w,(Go.sizeOf t).run P w= .ok B_ w)(hx:od L x=some (.pointer<|some ⟨b,o,none⟩))(hy:od L y=some v)
  (hk:nth B k=some (acc e sz (.slice (some ⟨b,0,none⟩) m c) q cells)) (eF:Nat.beq (vc v).length B_=true) (h1:((vc v).all fun u=>u.oneCell')=true) (hlen:o+(vc v).length≤cells.length)
  (next:∀w',Hp w0 G0 S w' G (bq B k<|acc e sz (.slice (some ⟨b,0,none⟩) m c) q<|ee cells o<|vc v)→R P n ops Q rest L ds w'):R P n ops Q (⟨none,.store t x y,ty,ps,af,none⟩::rest) L ds w:=by
 obtain⟨h0,h⟩:=(H.own _<|eO hk).1;rcases h with ⟨h,_⟩|⟨b',cap,C,g1,g2,g3,g4,g5,g6⟩
 ·cases h
 simp only[Value.slice.injEq,Option.some.injEq,Addr.mk.injEq]at g1;obtain⟨⟨rfl,_⟩,rfl,rfl⟩:=g1;have iR:k<B.length:=by rw[ii]at hk;exact(List.getElem?_eq_some_iff.1 hk).1
 have H1:Hp w0 G0 S w G (bq B k<|ai b<|cl C.toList e):=H.upd hk rfl rfl rfl (Nat.le_refl _) (fun _ _ _=>rfl) _ (by show w.heap[b]? = _;simpa using g2) (fun c hc=>by simp[ai]at hc;left;simp[gO,hc]) (by simp[ai]);have kZ:cells.length≤C.toList.length:=by rw[←g6];simp;omega
 obtain⟨w',hr,H2⟩:=aaQ (P:=P) (vc v) 0 C.toList w (o:=o) (b:=b) (e:=e) H1 (k:=k) (by rw[ii,jU];simp[iR]) (by omega) (by simpa using h1);have e1:(vc v).length=B_:=Nat.eq_of_beq_eq_true eF;refine Hc (w':=w') (fun a ha=>?_)<|next w' ?_
 ·simp[execOp,Instr.storeAt,ha.eval hx,ha.eval hy,Instr.sureAddr,storeVar,hS,uf,e1,hr]
 ·have jB:nth (bq (bq B k<|ai b<|cl C.toList e) k<|ai b<|cl (ee C.toList (o+0)<|vc v) e) k=some (ai b<|cl (ee C.toList (o+0)<|vc v) e):=by rw[ii,jU,jU];simp[iR]
  have hb:=(H2.own _<|eO jB).1;have H3:=H2.upd jB rfl rfl rfl (Nat.le_refl _) (fun _ _ _=>rfl) (acc e sz (.slice (some ⟨b,0,none⟩) m c) m<|ee cells o<|vc v) ⟨by rw[v_];exact h0,.inr ⟨b,c,(ee C.toList o<|vc v).toArray,rfl,hb,g3,g4,by simp[v_,g5],by rw[←g6,←Sn]⟩⟩ (fun c hc=>by simp[gO]at hc;left;simp[ai,hc]) (by simp[gO]);simpa [jU,List.set_set] using H3
theorem JS {α:Type}{E:PH→α→List Value→Prop}(k:Nat)(H:Hp w0 G0 S w G B)(i:Nat){d:Nat}{t e:TypeId}{inf:TypeInfo}{sz:Nat}{x y:Operand}{a:Option Addr}{m c:Nat}{cells:List Value}{xs:List α}
  (hk:nth B k=some (acc e sz (.slice a m c) m cells)) (hc:ay E sz G cells xs) (hE:∀z cs,E G z cs→∀u ∈ cs,u.oneCell'=true) (hU:P.underlying t=some (.slice e)) (hI:∀w,(typeInfo e).run P w= .ok inf w) (hs:inf.size=sz) (hd:Nat.blt d n=true)
  (hx:od L x=some (.slice a i c)) (hy:od L y=some (.slice (if c=i+1 then a else a.map (·.add ((i+1)*sz))) (m-(i+1))<|c-(i+1))) (hi:i<xs.length) (hm:m=xs.length)
  (next:∀b w',a=some ⟨b,0,none⟩→Hp w0 G0 S w' G (bq B k<|acc e sz (.slice (some ⟨b,0,none⟩) (i+(m-(i+1))) c) (i+(m-(i+1)))<|cells.take (i*sz)++cells.drop ((i+1)*sz))→ay E sz G (cells.take (i*sz)++cells.drop ((i+1)*sz)) (xs.take i++xs.drop (i+1)) →
   R P n ops Q rest ((d,.slice (some ⟨b,0,none⟩) (i+(m-(i+1))) c)::L) ds w'):R P n ops Q (⟨some d,.call ⟨.builtin .append,#[x,y],#[t,t]⟩,ty,ps,af,none⟩::rest) L ds w:=by
 subst hs;obtain⟨b,cap,C,h1,h2,h3,h4,h5,h6⟩:=H.Cl hk (i:=i) (by omega);simp only[Value.slice.injEq]at h1;obtain⟨rfl,_,rfl⟩:=h1;have kZ:=hc.length;have e1:m*inf.size=i*inf.size+inf.size+(m-(i+1))*inf.size:=by
  have:m=i+1+(m-(i+1)):=by omega
  conv=>lhs;rw[this,Nat.add_mul,Nat.add_mul,Nat.one_mul]
 have e2:(i+1)*inf.size=i*inf.size+inf.size:=by rw[Nat.add_mul];omega
 have lG:(cells.drop<|(i+1)*inf.size).length=(m-(i+1))*inf.size:=by
  rw[List.length_drop,kZ,←hm];omega
 have ON:=hc.J1 hE;have hCl:c*inf.size≤C.toList.length:=by simpa using h5
 have hle:m*inf.size≤c*inf.size:=Nat.mul_le_mul_right _ h3;have hr:∃ad,(if c=i+1 then some (⟨b,0,none⟩:Addr) else(some ⟨b,0,none⟩:Option Addr).map (·.add ((i+1)*inf.size)))=some ad∧∀j u,(cells.drop<|(i+1)*inf.size)[j]? = some u→w.cell? (ad.add j)=some u:=by
  by_cases rZ:c=i+1
  ·refine⟨⟨b,0,none⟩,by simp[rZ],fun j u hu=>?_⟩;have:=(List.getElem?_eq_some_iff.1 hu).1;rw[lG,show m-(i+1)=0 by omega]at this;omega
  ·refine⟨⟨b,(i+1)*inf.size,none⟩,by simp[rZ,Addr.add_lit],fun j u hu=>?_⟩;rw[List.getElem?_drop]at hu;rw[Addr.add_lit];exact wM H hk hu
 obtain⟨ad,ax,j7⟩:=hr;rw[ax]at hy;have pn:=run_append_room (P:=P) w t ty e inf hU (vW hI) b i c C h2 ad (m-(i+1)) (c-(i+1)) (cells.drop<|(i+1)*inf.size) lG j7 (fun u hu=>ON u<|List.mem_of_mem_drop hu) (by omega) (by rw[lG];rw[←Array.length_toList];omega);generalize vP:w.setRow b _=w' at pn;refine cP hd (w':=w') (fun f hf=>by simp[execOp,resolve,invoke,builtin,hf.eval hx,hf.eval hy,pn])<|next b _ rfl ?_ ((hc.abr i).app<|hc.Uz<|i+1);subst vP;have pt:C.toList.take (i*inf.size)=cells.take (i*inf.size):=by
  rw[←h6,List.take_take,Nat.min_eq_left<|by omega]
 refine H.upd (w':=w.setRow b (C.toList.take (i*inf.size)++cells.drop ((i+1)*inf.size)++C.toList.drop (i*inf.size+(cells.drop<|(i+1)*inf.size).length)).toArray) hk rfl rfl rfl (by simp) ?_ (acc e inf.size (.slice (some ⟨b,0,none⟩) (i+(m-(i+1))) c) (i+(m-(i+1)))<|cells.take (i*inf.size)++cells.drop ((i+1)*inf.size)) ⟨?_,.inr ⟨b,c,(C.toList.take (i*inf.size)++cells.drop ((i+1)*inf.size)++C.toList.drop (i*inf.size+(cells.drop<|(i+1)*inf.size).length)).toArray,rfl,setRow_heap w b C _ e _ h2,by omega,h4,?_,?_⟩⟩ ?_ (by simp[gO])
 ·intro b' _ qS;simp[gO]at qS;exact setRow_other w b b' _ qS
 ·rw[List.length_append,lG,List.length_take,Nat.min_eq_left<|by rw[kZ,←hm];omega,Nat.add_mul]
 ·simp only[List.size_toArray,List.length_append,lG,List.length_take,List.length_drop,hCl];omega
 ·rw[pt];have:(cells.take (i*inf.size)++cells.drop ((i+1)*inf.size)).length=(i+(m-(i+1)))*inf.size:=by
   rw[List.length_append,lG,List.length_take,Nat.min_eq_left<|by rw[kZ,←hm];omega,Nat.add_mul]
  rw[←this];exact List.take_left
 ·intro b' H9;left;simpa [gO] using H9
end ops
def dW (w:World)(G:PH)(fp:List Nat)(φ:PH→Value→List aW→Prop):Ending→World→Prop:=fun e w'=>∃G' v Bs,e= .returned v∧Hp w G fp w' G' Bs∧φ G' v Bs
section
variable {w0 w w':World} {G0 G G':PH} {S:List Nat} {B Bs:List aW}
theorem Hp.nL (H:Hp w0 G0 S w G B){k:Nat}{r:aW}(hk:nth B k=some r)(H':Hp w G r.fp w' G' Bs):Hp w0 G0 S w' G' (Bs++ez B k):=by
 obtain⟨B1,B2,h1,_,h3⟩:=pd hk;have hr:=H.own r<|eO hk;have Bd:=H.del hk;rw[h3]at Bd ⊢;have u7:∀b,b ∈ r.fp→b ∉ aV (B1++B2):=by
  intro b hb hm;have jE:=H.nd;have hp:List.Perm B (r::(B1++B2)):=by rw[h1];exact List.perm_middle
  have h2:(r.fp++aV (B1++B2)).Nodup:=(List.Perm.flatMap_right _ hp).nodup_iff.1 jE;exact(List.nodup_append.1 h2).2.2 b hb b hm rfl
 have zr:∀b,b ∈ aV (B1++B2)→w'.heap[b]? = w.heap[b]? := fun b hb=>H'.ext b (Bd.lt hb)<|fun h=>u7 b h hb;refine⟨H'.os.trans H.os,H'.tape.trans H.tape,H'.output.trans H.output,Nat.le_trans H.size H'.size,?_,H'.sub,H.le.trans H'.le,?_,?_,?_⟩
 ·intro b hb hS;rw[H'.ext b (Nat.lt_of_lt_of_le hb H.size)<|fun h=>?_]
  ·exact H.ext b hb hS
  ·rcases (hr.2 b h).2 with h'|h'
   ·exact hS h'
   ·omega
 ·intro b hb hn;exact H'.cO b (Nat.lt_of_lt_of_le hb H.size)<|H.cO b hb hn
 ·intro q hq;rcases List.mem_append.1 hq with hq|hq
  ·refine⟨(H'.own q hq).1,fun b hb=>⟨((H'.own q hq).2 b hb).1,?_⟩⟩;rcases ((H'.own q hq).2 b hb).2 with h|h
   ·exact(hr.2 b h).2
   ·exact .inr<|Nat.le_trans H.size h
  ·have nh:=Bd.own q hq;refine⟨q.loc _ _ (fun b hb=>(zr b<|List.mem_flatMap.2 ⟨q,hq,hb⟩).symm) nh.1,fun b hb=>⟨?_,(nh.2 b hb).2⟩⟩;exact H'.cO b (Bd.lt<|List.mem_flatMap.2 ⟨q,hq,hb⟩) (nh.2 b hb).1
 ·show(List.flatMap (·.fp)<|Bs++(B1++B2)).Nodup;rw[List.flatMap_append];refine List.nodup_append.2 ⟨H'.nd,Bd.nd,?_⟩;intro a ha b hb e;subst e;obtain⟨q,hq,Di⟩:=List.mem_flatMap.1 ha;rcases ((H'.own q hq).2 a Di).2 with h|h
  ·exact u7 a h hb
  ·have:=Bd.lt hb;omega
theorem Hp.gP (H:Hp w0 G0 S w G B){k b:Nat}{o:Obj}(hk:nth B k=some (ai b o)):w.heap[b]? = some o∧G b=none :=
 ⟨(H.own _<|eO hk).1,((H.own _<|eO hk).2 b<|by simp[ai]).1⟩
theorem Hp.aT {φ:PH→Value→List aW→Prop}{v:Value}(H:Hp w0 G0 S w G B)(h:φ G v B):dW w0 G0 S φ (.returned v) w:=⟨G,v,B,rfl,H,h⟩
theorem Hp.QH {b:Nat}{o:Obj}(h:aE G w)(hb:w.heap[b]? = some o)(hn:G b=none):Hp w G [b] w G [ai b o] :=
 Hp.YH (B:=[ai b o]) h (fun r hr=>by
  simp only[List.mem_singleton]at hr;subst hr;exact⟨hb,fun c hc=>by simp[ai]at hc;subst hc;exact hn⟩) (by simp[aV,ai])
theorem Hp.tZ {α:Type}{E:PH→α→List Value→Prop} [ik E] {b:Nat}{o:Obj}(H:Hp w0 G0 [b] w G B){k j:Nat}{e:TypeId}{sz:Nat}{v:Value}{n:Nat}{cells:List Value}{xs:List α}(hk:nth B k=some (acc e sz v n cells))(hj:nth (ez B k) j=some (ai b o))
  (hc:ay E sz G cells xs) (hn:n=xs.length) (hl:xs.length≤1099511627776) :
  ∃G',Hp w0 G0 [b] w G' (ez B k)∧an G G'∧aU iN E sz G' v xs:=by
 obtain⟨H',hp⟩:=H.BL hk (fun c hc Ii=>by
  simp only[List.mem_singleton]at Ii;subst Ii;obtain⟨B1,B2,h1,_,h3⟩:=pd hk;have EE:List.Perm B (acc e sz v n cells::(B1++B2)):=by rw[h1];exact List.perm_middle
  have h2:((acc e sz v n cells).fp++aV (B1++B2)).Nodup:=(List.Perm.flatMap_right _ EE).nodup_iff.1 H.nd;rw[h3]at hj;exact(List.nodup_append.1 h2).2.2 c hc c (Vb hj<|by simp[ai]) rfl)
 exact⟨_,H',cW.le _ _ _,Hg hp (hc.up<|cW.le _ _ _) hn hl⟩
end
section ops
variable {P:Program} {n:Nat} {ops:Array Oper} {Q:dp} {rest:List Oper} {L:br} {ds:List Deferred} {w:World}
variable {ty:TypeId} {ps:String} {af:Array Edge}
theorem awN {p q:Int}(hp:0≤p∧p<4611686018427387904)(hq:0≤q∧q<4611686018427387904):∃r:Nat,r<4611686018427387904∧IntKind.i64.wrap ((BitVec.ofInt 64 p ^^^ BitVec.ofInt 64 q).toNat:Int)=(r:Int):=by
 have ef:∀x:Int,0≤x∧x<4611686018427387904→(BitVec.ofInt 64 x).toNat<2 ^ 62:=by
  intro x hx;rw[BitVec.toNat_ofInt];have:x % ((2 ^ 64:Nat):Int)=x:=Int.emod_eq_of_lt hx.1 (by omega);rw[this];omega
 have h:=Nat.xor_lt_two_pow (ef p hp)<|ef q hq;refine⟨_,h,?_⟩;rw[BitVec.toNat_xor];exact wrap_i64 ⟨by omega,by omega⟩
theorem atY {d:Nat}{x y:Operand}{t u:TypeId}{p q:Int}(hd:Nat.blt d n=true)(hx:od L x=some (.int .i64 p))(hy:od L y=some (.int .i64 q))(hp:0≤p∧p<4611686018427387904)(hq:0≤q∧q<4611686018427387904)
  (next:∀r:Nat,r<4611686018427387904→R P n ops Q rest ((d,.int .i64 (r:Int))::L) ds w):R P n ops Q (⟨some d,.binOp .xor t x y u,ty,ps,af,none⟩::rest) L ds w:=by
 obtain⟨r,h1,h2⟩:=awN hp hq;have h3:(Op.intBits .xor .i64 p q).run P w= .ok (.int .i64 (r:Int)) w:=congrArg (fun z=>Result.ok (Value.int .i64 z) w) h2;exact cP hd (fun a ha=>by simp[execOp,ha.eval hx,ha.eval hy,binOp,eqGuard,h3])<|next r h1
end ops
end Fw
