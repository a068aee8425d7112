/- Part 4 of the proof: the program logic and plain functions. Conditions: none. -/
import Derived.Test.YteahfcbalmlklaaGreatDoorG03
import Derived.Lib.AppendStr
import Derived.Shelf.Strings.Builder1
import Derived.Lib.ItoaNum
import Derived.RangeFuncNested
import Derived.RangeFuncLeaves
import Derived.RangeFuncCalls
import Derived.RangeFuncBound
import Derived.WideKeyArgs
import Derived.ChangeArms
import Derived.DataElems
import Derived.ChangeSame
import Derived.Test.YteahfcbalmlklaaGreatDoorG02
import Derived.Shelf.SlSortCmp.WholeK
import Derived.Test.YteahfcbalmlklaaGreatDoorProg
import Derived.Shelf.SlGeneric
import Derived.Shelf.Strings.Search1
import Derived.Shelf.Strings.Search2
import Derived.Shelf.Strings.Count
import Derived.Shelf.SlIterI.Nil
import Derived.Shelf.SortM.Plain
import Derived.Shelf.SortM.SortNone
import Derived.Ground.GgzProg
import Derived.Ground.SlsfProg
import Derived.Ground.SlgmProg
set_option linter.all false
set_option maxRecDepth 100000
set_option maxHeartbeats 8000000
namespace Fw
open Go
def quotaE:PH→BQuota→List Value→Prop:=fun _ x cs=>cs=[str x.dir,.int .i64 x.most]∧x.dir.length≤16777216∧inI x.most
instance:MonoE quotaE:=⟨fun _ h=>h⟩
theorem rl2 {a b:Value}{cs':List Value}(h:RL [a,b] cs'):∃u v,cs'=[u,v]∧R1 a u∧R1 b v:=by
 rcases cs' with _|⟨u,_|⟨v,_|⟨w,r⟩⟩⟩
 ·exact h.elim
 ·exact h.2.elim
 ·exact⟨u,v,rfl,h.1,h.2.1⟩
 ·exact h.2.2.elim
instance : StE quotaE := ⟨fun {_ _ x cs cs'} hg hr h => by
 obtain⟨rfl,h1,h2⟩:=h
 obtain⟨u,v,rfl,k1,k2⟩:=rl2 hr
 obtain rfl:=r1_str k1
 obtain⟨p,rfl,hp⟩:=r1_int k2 h2
 exact⟨⟨x.dir,p⟩,rfl,h1,hp⟩⟩
def opE:PH→BOp→List Value→Prop:=fun G x cs=>∃a m c,cs=[.int .i64 x.kind,str x.path,.slice a m c]∧inI x.kind∧x.path.length≤16777216∧RdI G (.slice a m c) x.bytes
instance:MonoE opE:=⟨fun hle ⟨a,m,c,h1,h2,h3,h4⟩=>⟨a,m,c,h1,h2,h3,h4.up hle⟩⟩
abbrev RdOp:=RdS LIM opE 3
instance : StE opE := ⟨fun {_ _ x cs cs'} hg hr h => by
 obtain⟨a,m,c,rfl,h1,h2,h3⟩:=h
 obtain⟨u,v,w,rfl,k1,k2,k3⟩:=rl3 hr
 obtain⟨p,rfl,hp⟩:=r1_int k1 h1
 obtain rfl:=r1_str k2
 obtain rfl:=r1_slice k3
 obtain⟨ys,_,hy⟩:=h3.st hg
 exact⟨⟨p,x.path,ys⟩,a,m,c,rfl,hp,h2,hy⟩⟩
def partE:PH→BPart→List Value→Prop:=fun G x cs=>∃a m c,cs=[.int .i64 x.kind,str x.path,.bool x.dir,.slice a m c]∧inI x.kind∧x.path.length≤16777216∧RdI G (.slice a m c) x.bytes
instance:MonoE partE:=⟨fun hle ⟨a,m,c,h1,h2,h3,h4⟩=>⟨a,m,c,h1,h2,h3,h4.up hle⟩⟩
abbrev RdPart:=RdS LIM partE 4
theorem rl4 {a b c d:Value}{cs':List Value}(h:RL [a,b,c,d] cs'):∃u v w z,cs'=[u,v,w,z]∧R1 a u∧R1 b v∧R1 c w∧R1 d z:=by
 rcases cs' with _|⟨u,r⟩
 ·exact h.elim
 ·obtain⟨v,w,z,rfl,k⟩:=rl3 h.2
  exact⟨u,v,w,z,rfl,h.1,k⟩
instance : StE partE := ⟨fun {_ _ x cs cs'} hg hr h => by
 obtain⟨a,m,c,rfl,h1,h2,h3⟩:=h
 obtain⟨u,v,w,z,rfl,k1,k2,k3,k4⟩:=rl4 hr
 obtain⟨p,rfl,hp⟩:=r1_int k1 h1
 obtain rfl:=r1_str k2
 obtain rfl:=r1_bool k3
 obtain rfl:=r1_slice k4
 obtain⟨ys,_,hy⟩:=h3.st hg
 exact⟨⟨p,x.path,x.dir,ys⟩,a,m,c,rfl,hp,h2,hy⟩⟩
theorem opOp {G:PH}{x:BOp}{cs:List Value}(h:opE G x cs):∃a m c,cs=[.int .i64 x.kind,str x.path,.slice a m c]∧inI x.kind∧x.path.length≤16777216∧RdI G (.slice a m c) x.bytes∧m=x.bytes.length∧x.bytes.length≤1099511627776:=by
 obtain⟨a,m,c,rfl,h1,h2,h3⟩:=h
 exact⟨a,m,c,rfl,h1,h2,h3,h3.len,h3.lim⟩
instance:OpE opE (fun G (x:BOp) cs=>∃a m c,cs=[.int .i64 x.kind,str x.path,.slice a m c]∧inI x.kind∧x.path.length≤16777216∧RdI G (.slice a m c) x.bytes∧m=x.bytes.length∧x.bytes.length≤1099511627776):=⟨opOp⟩
theorem opPt {G:PH}{x:BPart}{cs:List Value}(h:partE G x cs):∃a m c,cs=[.int .i64 x.kind,str x.path,.bool x.dir,.slice a m c]∧inI x.kind∧x.path.length≤16777216∧RdI G (.slice a m c) x.bytes∧m=x.bytes.length∧x.bytes.length≤1099511627776:=by
 obtain⟨a,m,c,rfl,h1,h2,h3⟩:=h
 exact⟨a,m,c,rfl,h1,h2,h3,h3.len,h3.lim⟩
instance:OpE partE (fun G (x:BPart) cs=>∃a m c,cs=[.int .i64 x.kind,str x.path,.bool x.dir,.slice a m c]∧inI x.kind∧x.path.length≤16777216∧RdI G (.slice a m c) x.bytes∧m=x.bytes.length∧x.bytes.length≤1099511627776):=⟨opPt⟩
end Fw
namespace Sp
open Fw Nd
section
variable {d:BDisk} {p:Bs}
end
section
variable {d:BDisk} {x:BPart}
end
section
variable {d d1:BDisk} {p:Bs} {o:BOp}
end
section
variable {d:BDisk} {x:BPart} {i:Nat} {y:BItem}
end
section
variable {d:BDisk} {x:BPart}
end
section
variable {d:BDisk} {x:BPart}
end
section
variable {d e e1:BDisk} {l:List BOp} {o:BOp} {k:Nat}
theorem jgo_some (h:l[k]? = some o)(hr:OpRun e o=some e1):jgo e (l.drop k)=((jgo e1 (l.drop (k+1))).1,(jgo e1 (l.drop (k+1))).2+1):=by
 have hk:=(List.getElem?_eq_some_iff.1 h)
 rw[List.drop_eq_getElem_cons hk.1,hk.2]
 simp only[jgo,hr]
def JAt (d:BDisk)(l:List BOp)(k:Nat)(e:BDisk):Prop:=jgo d l=((jgo e (l.drop k)).1,(jgo e (l.drop k)).2+k)
theorem JAt.zero:JAt d l 0 d:=by simp[JAt]
theorem JAt.step (h:JAt d l k e)(hz:l[k]? = some o)(hr:OpRun e o=some e1):JAt d l (k+1) e1:=by
 unfold JAt at h ⊢
 rw[h,jgo_some hz hr]
 simp;omega
theorem JAt.done (h:JAt d l k e)(hk:l.length≤k):jgo d l=(e,k):=by
 unfold JAt at h
 rw[h,List.drop_of_length_le hk]
 simp[jgo]
end
section
variable {l c s r:List BItem} {f t:Bs}
end
section
variable {d:BDisk} {p:Bs} {n m:Int} {q:BQuota}
variable {l:List BQuota}
end
end Sp
namespace Fw
open Go
section
variable {w0 w:World} {G0 G:PH} {S:List Nat} {B:List Res}
end
theorem RdNs.up {G G':PH}{l:List Nd}(h:RdNs G l)(hle:PLe G G'):RdNs G' l:=RdNs.upm hle h
section
variable {P:Program} {w w0:World} {G0:PH} {S:List Nat} {G:PH} {B:List Res}
end
section
variable {P:Program} {n:Nat} {ops:Array Oper} {Q:Post} {rest:List Oper} {L:Slots} {ds:List Deferred} {w w0:World} {G0:PH} {S:List Nat} {G:PH} {B:List Res}
variable {ty:TypeId} {ps:String} {af:Array Edge} {ρ:Go.Shelf.Ren}
end
end Fw
namespace Fw
open Go Go.RowKit
section
variable {P:Program} {Q:Exit→Act→World→Prop}
abbrev wideF (r:Option Nat):Fence:={Fence.wide with round:=r}
theorem semAt_any (r:Option Nat)(ρ:Operand→Value)(o:Oper)(h:∀c,o.op≠ .defer c):Oper.semAt r ρ o=execOp ρ o:=by
 cases r with
 | none=>rfl
 | some l=>exact Oper.semAt_some l ρ o h
theorem opIn {r:Option Nat}{m:Nat}{o:Oper}{a:Act}{w:World}{next next':Act→World→Prop}(hnd:∀c,o.op≠ .defer c)(hn:∀a w,next a w→next' a w){Q':Exit→Act→World→Prop}(hqp:∀ch a w,Q (.panic ch) a w→Q' (.panic ch) a w)(hqo:LetsOut Q→LetsOut Q')
  (h:o.wp P a w next Q):o.wpIn (wideF r) m P a w next' Q':=by
 refine⟨fun _ _=>trivial,?_⟩
 rw[semAt_any _ _ _ hnd]
 unfold Oper.wp at h
 cases hr:(execOp a.eval o).run P w with
 | ok nx w' =>
  rw[hr]at h
  cases nx with
  | value v=>exact hn _ _ h
  | skip=>exact hn _ _ h
  | defer d=>exact hn _ _ h
  | enter f args =>
   refine⟨fun hh=>by simp[Fence.wide]at hh,?_⟩
   have h1:=callsIn_wide (n:=m-1).2 h
   refine CallsIn.mono (show CallsIn (wideF r) (m-1) P f args w' _ from h1) ?_
   intro e w'' he
   cases e with
   | returned v=>exact hn _ _ he
   | panicked chain=>exact hqp _ _ _ he
   | outgrown=>exact hqo he
  | row row args =>
   refine⟨fun hh=>by simp[Fence.wide]at hh,fun c cs _=>?_⟩
   obtain⟨v,w'',h1,h2⟩:=h c cs
   exact⟨v,w'',hn _ _ h1,stepsIn_wide.2 h2⟩
  | _=>exact h.elim
 | halt st w' =>
  rw[hr]at h
  cases st with
  | panic v=>exact hqp _ _ _ h
  | _=>exact h.elim
theorem listIn {r:Option Nat}{m:Nat}{ops:Array Oper}(hQ:¬LetsOut Q):∀(l:List Oper) (a:Act) (w:World),(∀o,o ∈ l→∀c,o.op≠ .defer c)→wpList P ops Q l a w→wpListIn (wideF r) m P ops Q l a w
 | [],_,_,_,h=>h
 | o :: l, a, w, hd, h => by
  have ih:∀a w,wpList P ops Q l a w→wpListIn (wideF r) m P ops Q l a w:=fun a w h=>listIn hQ l a w (fun x hx=>hd x (List.mem_cons_of_mem _ hx)) h
  unfold wpList at h
  unfold wpListIn
  split
  ·rename_i hw
   rw[if_pos hw]at h
   rcases h with h|⟨_,h⟩
   ·exact opIn (hd o (List.mem_cons_self ..)) ih (fun _ _ _ h=>h) (fun h=>h) h
   ·exact absurd h hQ
  ·rename_i hw
   rw[if_neg hw]at h
   exact⟨fun _ _=>trivial,ih _ _ h⟩
def noDef (l:List Oper):Bool:=l.all fun o=>match o.op with | .defer _=>false|_=>true
theorem noDef_iff {l:List Oper}(h:noDef l=true):∀o,o ∈ l→∀c,o.op≠ .defer c:=by
 intro o ho c e
 have:=List.all_eq_true.1 h o ho
 rw[e]at this
 cases this
theorem WI_region {r:Option Nat}{m n id:Nat}{l:List Oper}{L:Slots}{ds:List Deferred}{w:World}{a:Act}(hQ:¬LetsOut Q)(hd:noDef l=true)(ha:FrL n L ds a)(h:R P n l.toArray Q l L ds w):(Code.region id l.toArray false).wpIn (wideF r) m P Q a w :=
 wpIn_region_lit (listIn hQ l a w (noDef_iff hd) (h a ha))
def RI (P:Program)(m n:Nat)(ops:Array Oper)(Q:Post)(l:List Oper)(L:Slots)(ds:List Deferred)(w:World):Prop:=∀a,FrL n L ds a→wpListIn (wideF none) m P ops Q l a w
def Qc (P:Program)(m:Nat)(ops:Array Oper)(Q:Post)(l:List Oper):Post
 | .normal,a,w=>wpListIn (wideF none) m P ops Q l a w
 | .outgrown,_,_=>False
 | e,a,w=>Q e a w
theorem Qc_out {m:Nat}{ops:Array Oper}{l:List Oper}:¬LetsOut (Qc P m ops Q l):=fun⟨_,_,h⟩=>h
variable {m n:Nat} {ops:Array Oper} {l:List Oper} {L:Slots} {ds:List Deferred} {w:World}
theorem RI_l {o:Oper}(hd:noDef [o]=true)(h:R P n ops (Qc P m ops Q l) [o] L ds w):RI P m n ops Q (o::l) L ds w:=by
 intro a ha
 have h:=h a ha
 unfold wpList at h
 unfold wpListIn
 split
 ·rename_i hw
  rw[if_pos hw]at h
  rcases h with h|⟨_,h⟩
  ·exact opIn (Q:=Qc P m ops Q l) (r:=none) (noDef_iff hd o (List.mem_cons_self ..)) (fun a w h=>h) (fun _ _ _ h=>h) (fun h=>absurd h Qc_out) h
  ·exact absurd h Qc_out
 ·rename_i hw
  rw[if_neg hw]at h
  exact⟨fun _ _=>trivial,h⟩
theorem RI_b (h:RI P m n ops Q l L ds w):R P n ops (Qc P m ops Q l) [] L ds w:=fun a ha=>wpList_nil (h a ha)
theorem RI_nil (h:N n Q .normal L ds w):RI P m n ops Q [] L ds w:=fun a ha=>h a ha
theorem W_regionI {id:Nat}{l:List Oper}(h:RI P 3 n l.toArray Q l L ds w):W P n Q (.region id l.toArray false) L ds w:=fun a ha=>(wpIn_wide (n:=3)).1 (wpIn_region_lit (h a ha))
variable {ty:TypeId} {ps:String} {af:Array Edge} {rest:List Oper}
theorem o_yield {d k:Nat}{x y:Operand}{ts:Array TypeId}{v:Value}{C:Ending→World→Prop}(hd:Nat.blt d n=true)(hx:od L x=some (.func (.yield k) #[] #[]))(hy:od L y=some v)
  (hY:YieldAt (wideF none) (m-1) P k #[v] w C) (next:∀e w',C e w'→∃b,e= .returned b∧RI P m n ops Q rest ((d,b)::L) ds w') :
  RI P m n ops Q (⟨some d,.call ⟨.value x,#[y],ts⟩,ty,ps,af,none⟩::rest) L ds w:=by
 intro a ha
 obtain⟨fn,tmps,assign,body,hr,hR⟩:=hY
 unfold wpListIn
 have e2:Region.wanted ⟨some d,.call ⟨.value x,#[y],ts⟩,ty,ps,af,none⟩ (yielded ops a.tmps)=true:=by simp[Region.wanted]
 rw[if_pos e2]
 refine⟨fun _ _=>trivial,?_⟩
 have e3:(execOp a.eval ⟨some d,.call ⟨.value x,#[y],ts⟩,ty,ps,af,none⟩).run P w= .ok (.round k fn tmps assign body) w:=by
  simp[execOp,resolve,invoke,ha.eval hx,ha.eval hy,Deferred.ofValue,hr]
 rw[semAt_any _ _ _ (by intro c e;cases e),e3]
 refine⟨fun hh=>by simp[Fence.wide]at hh,hR.mono ?_⟩
 intro e w' he
 obtain⟨b,rfl,h⟩:=next e w' he
 exact h _ (ha.put hd b)
theorem calls_of_WM {f:FuncId}{fn:Func}{c:Code}{l:List Value}{C:Ending→World→Prop}
  (hf:P.funcs[f]? = some fn) (hb:fn.body=some c) (hn:fn.ntmps=n) (hl:Nat.ble l.length n=true)
  (h:W P n (bodyPostM Fence.wide 3 P fn C) c (initL 0 l) [] w):Calls P f l.toArray w C:=by
 refine(callsIn_wide (n:=3)).1 (callsIn_of_wp_marks hf hb trivial ((wpIn_wide (n:=3)).2 (h _ ⟨?_,?_,rfl⟩)) rfl)
 ·have:l.length≤n:=by simpa using hl
  simp[hn];omega
 ·intro t v hv
  obtain⟨_,h2⟩:=lk_initL l 0 t v hv
  have hlt:t<l.length:=by
   have:=List.getElem?_eq_some_iff.1 h2
   obtain⟨h,_⟩:=this
   simpa using h
  simp only[Nat.sub_zero]at h2
  rw[Array.getElem?_append_left (by simpa using hlt)]
  simpa using h2
section
variable {fn:Func} {C:Ending→World→Prop}
theorem retM {rs : List ResultVar} {vs : List Value} (hr : fn.results = rs.toArray) (hv : RV P w L rs vs) (hR : C (.returned (tupleOf vs)) w) : N n (bodyPostM Fence.wide 3 P fn C) .ret L [] w := fun a ha => by
 show LeavesInM Fence.wide 3 P fn a.tmps C a.defers .returning w
 rw[ha.defers]
 exact⟨_,run_results' hr ha hv,hR⟩
theorem retMc {D:Nat}{rs:List ResultVar}{vs:List Value}(hr:fn.results=rs.toArray)(hK:w.heap[D]? = some (.deferred (some [])))(hv:RV P (w.putObj D (.deferred none)) L rs vs)(hR:C (.returned (tupleOf vs)) (w.putObj D (.deferred none))) :
  N n (bodyPostM Fence.wide 3 P fn C) .ret L [{target:= .collected D,args:= #[]}] w:=fun a ha=>by
 show LeavesInM Fence.wide 3 P fn a.tmps C a.defers .returning w
 rw[ha.defers]
 exact⟨by simp,.inl ⟨D,_,rfl,run_takeDeferred hK,⟨_,run_results' hr ha hv,hR⟩⟩⟩
end
end
def KpG (G:PH)(W W':World):Prop:=PSub G W→PSub G W'
def KpW (G:PH)(W W':World):Prop:=KpG G W W'∧KeepsWalks W W'
section
variable {w0 w:World} {G0:PH} {S:List Nat} {G:PH}
theorem acc_cells {e:TypeId}{sz:Nat}{v:Value}{k:Nat}{cs:List Value}{h:Nat→Option Obj}(hp:(acc e sz v k cs).pred h):∀b,b ∈ (acc e sz v k cs).fp→∃c,h b=some (.cells c e (0,0)):=by
 intro b hb
 rcases hp.2 with ⟨rfl,_⟩|⟨g,cap,C,rfl,h1,_⟩
 ·simp[acc_fp_nil]at hb
 ·simp[acc_fp]at hb
  subst hb
  exact⟨_,h1⟩
theorem Hp.turn {b:Nat}{tl te:TypeId}{v:Value}{sz k:Nat}{cs:List Value}{W W':World}{row:Option Nat}(H:Hp w0 G0 S W G [blk b (cl [v] tl),acc te sz v k cs])(hg:W.grownBy W' row)
  (hr:∀r,row=some r→w.heap.size≤r∧∃o:Obj,W.heap[r]? = some o∧o.isCells=false) (hw:w0.heap.size≤w.heap.size) (hG:PSub G w):Hp w0 G0 S W' G [blk b (cl [v] tl),acc te sz v k cs]:=by
 have hsame:∀c o,W.heap[c]? = some o→(o.isCells=true∨c<w.heap.size)→W'.heap[c]? = some o:=by
  intro c o hc ho
  rw[hg.block c (Array.getElem?_eq_some_iff.1 hc).1 ?_]
  ·exact hc
  ·intro e
   obtain⟨h1,o',h2,h3⟩:=hr c e.symm
   rw[hc]at h2
   cases h2
   rcases ho with ho|ho
   ·rw[ho]at h3;cases h3
   ·omega
 refine⟨hg.os.trans H.os,hg.tape.trans H.tape,hg.output.trans H.output,Nat.le_trans H.size hg.size,?_,?_,H.le,H.old,?_,H.nd⟩
 ·intro c hc hS
  rw[←H.ext c hc hS]
  have hlt:c<W.heap.size:=Nat.lt_of_lt_of_le hc H.size
  exact hg.block c hlt (fun e=>by obtain⟨h1,_⟩:=hr c e.symm;omega)
 ·intro c o hc
  exact hsame c o (H.sub c o hc) (.inr (hG.lt hc))
 ·intro r hm
  obtain⟨h1,h2⟩:=H.own r hm
  refine⟨?_,h2⟩
  rcases List.mem_cons.1 hm with rfl|hm
  ·exact hsame b _ h1 (.inl rfl)
  ·rw[List.mem_singleton]at hm
   subst hm
   refine(acc te sz v k cs).loc _ _ (fun c hc=>?_) h1
   obtain⟨C,hC⟩:=acc_cells h1 c hc
   exact hC.trans (hsame c _ hC (.inl rfl)).symm
end
theorem yieldAny {P:Program}{m m' l:Nat}{args:Array Value}{W:World}{R:Ending→World→Prop}(h:YieldAt (wideF none) m P l args W R):YieldAt (wideF none) m' P l args W R:=by
 obtain⟨fn,tmps,assign,body,h1,h2⟩:=h
 exact⟨fn,tmps,assign,body,h1,h2.1,fun c cs _=>h2.2 c cs (room_wide _)⟩
theorem grown_of_ext {w w':World}(e:Ext w w'):w.grownBy w' none:=⟨e.os,e.tape,e.output,e.size,fun k hk _=>e.block k hk⟩
theorem W_collect {α:Type}{E:PH→α→List Value→Prop}{P:Program}{n:Nat}{Q:Post}{L:Slots}{ds:List Deferred}{w0 w:World}{G0:PH}{S:List Nat}{G:PH}{g:Operand}{p q:Nat}{assign body:Code}{gf:Nat}{lb:Array Value}{te tl:TypeId}{sz b:Nat}{v:Value}
  {enc:α→Value} {Sx:List α→Prop} {M:Nat}
  (H:Hp w0 G0 S w G [blk b (cl [v] tl),acc te sz v 0 []]) (hC0:Chk E sz G [] ([]:List α)) (hg:od L g=some (.func (.func gf) #[] lb)) (eg:∀args w,(callFunc gf args).run P w= .ok (.enter gf args) w) (hp:Nat.blt p n=true)
  (hseq:SeqStopsK (wideF none) 2 P gf lb (fun x:α=> #[enc x]) (KpW G) Sx (fun _=>True) M w)
  (hassign : ∀ (r m : Nat) (x : α) (W : World) (Qa : Post), ¬ LetsOut Qa → (∀ (W' : World) (bx : Nat), Hp W (fun _ => none) [] W' (fun _ => none) [blk bx (cl (vc (enc x)) te)] → N n Qa .normal ((q, .pointer (some ⟨bx, 0, none⟩)) :: (p, enc x) :: L) [] W') →
   ∀a,FrL n ((p,enc x)::L) [] a→assign.wpIn (wideF (some r)) m P Qa a W)
  (hbody:∀(r m:Nat) (x:α) (pre:List α) (W:World) (v:Value) (cs:List Value) (bx:Nat) (Qb:Post),pre.length<M→¬LetsOut Qb→Chk E sz G cs pre →
   Hp W G (fps [blk bx (cl (vc (enc x)) te),blk b (cl [v] tl),acc te sz v pre.length cs]) W G [blk bx (cl (vc (enc x)) te),blk b (cl [v] tl),acc te sz v pre.length cs] →
   (∀(L2:Slots) (W':World) (v':Value) (cs':List Value),Hp W G (fps [blk bx (cl (vc (enc x)) te),blk b (cl [v] tl),acc te sz v pre.length cs]) W' G [blk b (cl [v'] tl),acc te sz v' (pre.length+1) cs']→Chk E sz G cs' (pre++[x])→N n Qb .normal L2 [] W') →
   ∀a,FrL n ((q,.pointer (some ⟨bx,0,none⟩))::(p,enc x)::L) [] a→body.wpIn (wideF (some r)) m P Qb a W)
  (next:∀(D:Nat) (xs:List α) (W:World) (v:Value) (cs:List Value),Sx xs→Hp w0 G0 S W G [blk b (cl [v] tl),acc te sz v xs.length cs]→Chk E sz G cs xs→w.heap.size≤D→W.heap[D]? = some (.deferred (some []))→N n Q .normal L ({target:= .collected D,args:= #[]}::ds) W) :
  W P n Q (.rangeFunc g #[p] assign body) L ds w:=by
 intro a ha
 refine(wpIn_wide (n:=3)).1 ?_
 have hGw:PSub G w:=H.sub
 have hbw:b<w.heap.size:=H.lt (by simp[fps,blk])
 have hsz:=H.size
 let I:List α→World→Prop:=fun pre W=>∃v cs,Hp w0 G0 S W G [blk b (cl [v] tl),acc te sz v pre.length cs]∧Chk E sz G cs pre∧w.heap.size≤W.heap.size
 let Ax:α→Act→World→Prop:=fun x a' W=>∃bx,FrL n ((q,.pointer (some ⟨bx,0,none⟩))::(p,enc x)::L) [] a'∧W.heap[bx]? = some (cl (vc (enc x)) te)∧w.heap.size≤bx∧∀v',W.heap[b]? = some (cl [v'] tl)→bx ∉ (acc te sz v' 0 []).fp
 have hI : OwnFrom w.heap.size I := fun pre W W' row h hg' hr => by
  obtain⟨v,cs,H',hc,hle⟩:=h
  exact⟨v,cs,H'.turn hg' hr hsz hGw,hc,Nat.le_trans hle hg'.size⟩
 have hAx : ∀ x a', OwnFrom w.heap.size (fun (_ : Unit) W => Ax x a' W) := fun x a' _ W W' row h hg' hr => by
  obtain⟨bx,h1,h2,h3,h4⟩:=h
  have hbx:=(Array.getElem?_eq_some_iff.1 h2).1
  refine⟨bx,h1,?_,h3,fun v' hv'=>h4 v' ?_⟩
  ·rw[hg'.block bx hbx ?_]
   ·exact h2
   ·intro e
    obtain⟨_,o,ho,hoc⟩:=hr bx e.symm
    rw[h2]at ho
    cases ho
    cases hoc
  ·rw[hg'.block b (by omega) ?_]at hv'
   ·exact hv'
   ·intro e
    obtain⟨hh,_⟩:=hr b e.symm
    omega
 refine wpIn_rangeFunc_ownH (F:=wideF none) (n:=3) rfl (by omega) (gf:=gf) (lb:=lb) (ha.eval hg) trivial eg hseq (fun h k=>⟨fun hh=>k.1 (h.1 hh),h.2.trans k.2⟩) ?_ (Below.refl _ _) (fun _=>rfl) I (fun _ _ _=>False) hI (fun _=>fun _ _ _ _ h _ _=>h) ⟨v,[],by simpa using H,hC0,Nat.le_refl _⟩ Ax hAx ?_ ?_ ?_ ?_
 ·intro W l o o' hl ho hoc hnw
  refine⟨fun hs c x hc=>?_,walksK_b (w:=w) W l o o' hl ho hoc hnw⟩
  rw[World.putObj_heap_other (by have:=hGw.lt hc;omega)]
  exact hs c x hc
 ·intro l pre x W K hi hK
  refine hassign l _ x W _ (fun⟨_,_,h⟩=>h) (fun W' bx H' a' ha'=>?_) _ ?_
  ·have hx:=H'.toExt
   have hown:=H'.own _ (List.mem_cons_self ..)
   have hbx:W.heap.size≤bx:=by
    rcases (hown.2 bx (by simp[blk])).2 with h|h
    ·simp at h
    ·exact h
   obtain⟨v,cs,H1,hc,hwW⟩:=hi
   refine hK a' W' ⟨hx.size,fun k o _ hk _=>(hx.block k (Array.getElem?_eq_some_iff.1 hk).1).trans hk⟩ ⟨fun hs=>hs.ext hx,⟨hx.size,fun k o hk _=>(hx.block k (Array.getElem?_eq_some_iff.1 hk).1).trans hk⟩⟩ ⟨v,cs,H1.step hx,hc,Nat.le_trans hwW hx.size⟩ ⟨bx,ha',hown.1,Nat.le_trans hwW hbx,fun v' hv'=>?_⟩
   ·have hbW:b<W.heap.size:=H1.lt (by simp[fps,blk])
    rw[hx.block b hbW]at hv'
    have hv0:W.heap[b]? = some (cl [v] tl):=(H1.own _ (List.mem_cons_self ..)).1
    rw[hv0]at hv'
    cases hv'
    intro hm
    have:bx<W.heap.size:=H1.lt (List.mem_flatMap.2 ⟨_,List.mem_cons_of_mem _ (List.mem_singleton.2 rfl),hm⟩)
    omega
  ·have h1:=ha.put hp (enc x)
   refine⟨?_,?_,rfl⟩
   ·simpa [Act.put] using h1.size
   ·simpa [Act.put] using h1.get
 ·rintro l pre x a' W hl hrec ⟨v,cs,H1,hc,hwW⟩ ⟨bx,h1,h2,h3,h4⟩ hlen
  have hv0:W.heap[b]? = some (cl [v] tl):=(H1.own _ (List.mem_cons_self ..)).1
  have hacc:=H1.own _ (List.mem_cons_of_mem _ (List.mem_cons_self ..))
  have hbG:G bx=none:=by
   cases e:G bx with
   | none=>rfl
   | some o=>have:=hGw.lt e;omega
  have hnb:bx≠b:=by omega
  have hnf:bx ∉ (acc te sz v pre.length cs).fp:=h4 v hv0
  have H2:Hp w0 G0 S W G [blk bx (cl (vc (enc x)) te),blk b (cl [v] tl),acc te sz v pre.length cs]:=by
   refine⟨H1.os,H1.tape,H1.output,H1.size,H1.ext,H1.sub,H1.le,H1.old,?_,?_⟩
   ·intro r hr
    rcases List.mem_cons.1 hr with rfl|hr
    ·refine⟨h2,fun c hc'=>?_⟩
     simp[blk]at hc'
     subst hc'
     exact⟨hbG,.inr (by omega)⟩
    ·exact H1.own r hr
   ·have hnd:=H1.nd
    simp only[fps,List.flatMap_cons,List.flatMap_nil,List.append_nil]at hnd ⊢
    have e1:(blk bx (cl (vc (enc x)) te)).fp=[bx]:=rfl
    have e2:(blk b (cl [v] tl)).fp=[b]:=rfl
    rw[e1]
    refine List.nodup_append.2 ⟨by simp,hnd,?_⟩
    intro c hc1 d hd1 e
    simp at hc1
    subst hc1 e
    rcases List.mem_append.1 hd1 with h|h
    ·rw[e2]at h;simp at h;exact hnb h
    ·exact hnf h
  have hL:Lent W G [blk bx (cl (vc (enc x)) te),blk b (cl [v] tl),acc te sz v pre.length cs]:=H2.lent3
  refine hbody l _ x pre W v cs bx _ hlen (fun⟨_,_,h⟩=>h) hc hL.hp (fun L2 W' v' cs' H' hc' a2 ha2=>?_) a' h1
  have hS:∀k o,W.heap[k]? = some o→o.isCells=false→k ∉ fps [blk bx (cl (vc (enc x)) te),blk b (cl [v] tl),acc te sz v pre.length cs]:=by
   intro k o hk ho hm
   obtain⟨r,hr,hkr⟩:=List.mem_flatMap.1 hm
   rcases List.mem_cons.1 hr with rfl|hr
   ·simp[blk]at hkr;subst hkr;rw[h2]at hk;cases hk;cases ho
   ·rcases List.mem_cons.1 hr with rfl|hr
    ·simp[blk]at hkr;subst hkr;rw[hv0]at hk;cases hk;cases ho
    ·rw[List.mem_singleton]at hr
     subst hr
     obtain⟨c,hc2⟩:=acc_cells hacc.1 k hkr
     rw[hc2]at hk;cases hk;cases ho
  refine⟨⟨H'.size,fun k o _ hk ho=>?_⟩,⟨fun _=>H'.sub,⟨H'.size,fun k o hk ho=>by rw[H'.ext k (Array.getElem?_eq_some_iff.1 hk).1 (hS k o hk (Obj.not_cells_of_walk ho))];exact hk⟩⟩,v',cs',?_,hc',Nat.le_trans hwW H'.size⟩
  ·rw[H'.ext k (Array.getElem?_eq_some_iff.1 hk).1 (hS k o hk ho)]
   exact hk
  ·have:=Hp.borrows (Ls:=[blk bx (cl (vc (enc x)) te),blk b (cl [v] tl),acc te sz v pre.length cs]) (B:=[]) (by simpa using H2) H'
   simpa using this
 ·rintro D xs W hD hS ⟨v,cs,H1,hc,_⟩ hK
  exact next D xs W v cs hS H1 hc hD hK _ ⟨ha.size,ha.get,by simp[ha.defers]⟩
 ·rintro D c pre W hD _ h
  exact h.elim
end Fw
namespace Fw
structure BTurn where
 snap:Bs
 kind:Int
end Fw
namespace Fw
open Go Go.RowKit
def turnE:PH→BTurn→List Value→Prop:=fun _ x cs=>cs=[str x.snap,.int .i64 x.kind]
instance:MonoE turnE:=⟨fun _ h=>h⟩
section
variable {w0 w:World} {G0:PH} {S:List Nat} {G:PH} {B:List Res}
theorem psub_below {w w' : World} (h : PSub G w) (hb : Go.RowKit.Below w.heap.size w w') : PSub G w' := fun b o hg => by
 rw[hb.block b (h.lt hg)]
 exact h b o hg
theorem Hp.putD {D b:Nat}{tl te:TypeId}{v:Value}{sz k:Nat}{cs:List Value}{W:World}(H:Hp w0 G0 S W G [blk b (cl [v] tl),acc te sz v k cs])(hw:w0.heap.size≤w.heap.size)(hG:PSub G w)(hD:w.heap.size≤D)(hK:W.heap[D]? = some (.deferred (some []))) :
  Hp w0 G0 S (W.putObj D (.deferred none)) G [blk b (cl [v] tl),acc te sz v k cs] :=
 H.turn (w:=w) (grownBy_putObj' W D _) (fun r e=>by cases e;exact⟨hD,_,hK,rfl⟩) hw hG
end
end Fw
namespace Fw
open Go
section
variable {H:Type} {enc:TypeId×Value→H} {P:Program} {W:World}
structure Bulk (bk:DataW H→Nat) (bka:List (DataW H)→Nat):Prop where
 slice:∀es sp,bk (.slice es sp)=bka es+bka sp+1
 agg:∀ps,bk (.agg ps)=bka ps+1
 str:∀b,bk (.lit (.string b))=b.length+1
 nil:bka []=0
 cons:∀d r,bka (d::r)=bk d+bka r
 pos:∀d,1≤bk d
variable {bk:DataW H→Nat} {bka:List (DataW H)→Nat}
theorem Bulk.len (hb:Bulk bk bka):∀l,l.length≤bka l
 | []=>by simp
 | d :: r => by
  have h1:=hb.len r
  have h2:=hb.pos d
  rw[hb.cons]
  simp;omega
theorem Bulk.mem (hb:Bulk bk bka){d:DataW H}:∀{l:List (DataW H)},d ∈ l→bk d≤bka l
 | [],h=>by simp at h
 | e :: r, h => by
  rw[hb.cons]
  rcases List.mem_cons.1 h with rfl|h
  ·omega
  ·have:=hb.mem h
   omega
theorem Bulk.memF (hb : Bulk bk bka) {l : List (DataW H × List MemPlace)} {i : Nat} (hi : i < l.length) : bk (l[i]).1 ≤ bka (l.map (fun x => x.1)) :=
 hb.mem (List.mem_map.2 ⟨l[i],List.getElem_mem hi,rfl⟩)
abbrev Reads (enc:TypeId×Value→H) (P:Program) (W:World) (n:Nat) (t:TypeId) (cs:List Value):Option (DataW H×List MemPlace):=DataW.trod enc P W 0 (fun _=>true) true n t cs
def Elem (enc:TypeId×Value→H)(P:Program)(W:World)(bk:DataW H→Nat)(t:TypeId)(sz:Nat){α:Type}(E:PH→α→List Value→Prop):Prop :=
 ∀n cs x,Reads enc P W n t cs=some x→bk x.1≤1048576→∃a,cs.length=sz∧E (PAll W) a cs
theorem elem_int {t:TypeId}(ht:P.underlying t=some (.int .i64)):Elem enc P W bk t 1 intE:=by
 intro n cs x h _
 obtain⟨i,rfl,_,hw⟩:=DataW.trod_int ht h
 refine⟨i,rfl,rfl,?_⟩
 simp[Lit.wf,IntKind.min,IntKind.max,IntKind.signed,IntKind.bits]at hw
 exact⟨by omega,by omega⟩
theorem elem_str (hb:Bulk bk bka){t:TypeId}(ht:P.underlying t=some .string):Elem enc P W bk t 1 strE:=by
 intro n cs x h hx
 obtain⟨s,rfl,rfl,_⟩:=DataW.trod_string ht h
 simp only[hb.str]at hx
 exact⟨s.data.toList,rfl,rfl,by omega⟩
theorem elem_bool {t : TypeId} (ht : P.underlying t = some .bool) : Elem enc P W bk t 1 (fun _ (x : Bool) cs => cs = [.bool x]) := by
 intro n cs x h _
 obtain⟨b,rfl,_⟩:=DataW.trod_bool ht h
 exact⟨b,rfl,rfl⟩
theorem list_of {α:Type}{Q:Nat→α→Prop}:∀n,(∀i,i<n→∃x,Q i x)→∃xs:List α,xs.length=n∧∀i x,xs[i]? = some x→Q i x
 | 0,_=>⟨[],rfl,by simp⟩
 | n + 1, h => by
  obtain⟨xs,h1,h2⟩:=list_of n (fun i hi=>h i (by omega))
  obtain⟨x,hx⟩:=h n (by omega)
  refine⟨xs++[x],by simp[h1],fun i y hy=>?_⟩
  by_cases hi:i<n
  ·rw[List.getElem?_append_left (by omega)]at hy
   exact h2 i y hy
  ·rw[List.getElem?_append_right (by omega)]at hy
   have:i=n:=by
    have:=(List.getElem?_eq_some_iff.1 hy).1
    simp at this
    omega
   subst this
   simp[h1]at hy
   subst hy
   exact hx
theorem mapM_at {α β:Type}{f:α→Option β}:∀{l:List α} {r:List β},l.mapM f=some r→∀(i:Nat) (x:α),l[i]? = some x→f x=r[i]?
 | [],r,h,i,x,hx=>by simp at hx
 | y :: t, r, h, i, x, hx => by
  simp only[List.mapM_cons,Option.bind_eq_bind,Option.bind_eq_some_iff,Option.pure_def,Option.some.injEq]at h
  obtain⟨z,h1,u,h2,rfl⟩:=h
  cases i with
  | zero=>simp at hx;subst hx;simpa using h1
  | succ i=>simp only[List.getElem?_cons_succ]at hx ⊢;exact mapM_at h2 i x hx
theorem pcell_of {b o:Nat}{v:Value}(h:W.cell? ⟨b,o,none⟩=some v):PCell (PAll W) b o v:=by
 unfold World.cell? at h
 unfold PCell PAll
 split at h
 ·rename_i C e fz hb
  exact⟨C,e,fz,hb,by simpa using h⟩
 ·cases h
theorem elem_slice {α:Type}{E:PH→α→List Value→Prop}(hb:Bulk bk bka){t e:TypeId}{sz:Nat}(ht:P.underlying t=some (.slice e))(hz:P.cellsOf e=sz)(hsz:0<sz)(hE:Elem enc P W bk e sz E) :
  ∀n cs x,Reads enc P W n t cs=some x→bk x.1≤1048576→∃v xs,cs=[v]∧RdS LIM E sz (PAll W) v xs:=by
 intro n cs x h hx
 rcases DataW.trod_slice ht h with ⟨rfl,_⟩|⟨a,len,cap,elems,rest,m,_,rfl,rfl,_,h2,_,h4,h5,_,_⟩
 ·exact⟨_,[],rfl,RdS.nil _ _ _⟩
 ·simp only[hb.slice]at hx
  rw[hz]at h5
  have hle:=hb.len (elems.map (·.1))
  rw[List.length_map]at hle
  have hel:∀i,i<len→∃y:α,∃cs,cs.length=sz∧E (PAll W) y cs∧∀j v,cs[j]? = some v→W.cell? ((a.add (i*sz)).add j)=some v:=by
   intro i hi
   have h6:=h5 i hi
   rw[List.getElem?_eq_getElem (by omega)]at h6
   obtain⟨cs,k1,k2⟩:=Option.bind_eq_some_iff.1 h6
   obtain⟨y,k3,k4⟩:=hE m cs _ k2 (Nat.le_trans (hb.memF (by omega)) (by omega))
   refine⟨y,cs,k3,k4,fun j v hj=>?_⟩
   unfold World.cells? at k1
   split at k1
   ·have hjl:=(List.getElem?_eq_some_iff.1 hj).1
    rw[←hj]
    exact mapM_at k1 j j (by rw[List.getElem?_range (by omega)])
   ·cases k1
  obtain⟨xs,x1,x2⟩:=list_of len hel
  refine⟨_,xs,rfl,some a,cap,by rw[x1],by omega,by simp only[LIM];omega,?_⟩
  by_cases h0:len=0
  ·exact .inl (List.eq_nil_of_length_eq_zero (by omega))
  ·right
   have hspot:a.spot=none:=by
    obtain⟨y,cs,y1,_,y2⟩:=hel 0 (by omega)
    have:=World.cell?_spot (y2 0 cs[0] (by simp))
    simpa [Addr.add] using this
   obtain⟨b,o,sp⟩:=a
   simp only at hspot
   subst hspot
   refine⟨b,o,rfl,fun i y hy=>?_⟩
   obtain⟨cs,c1,c2,c3⟩:=x2 i y hy
   refine⟨cs,c1,c2,fun j v hj=>pcell_of ?_⟩
   have:=c3 j v hj
   rwa [Addr.add_lit,Addr.add_lit]at this
theorem struct_fields (hb:Bulk bk bka){t:TypeId}{fs:Array Field}{k:Nat}(ht:P.underlying t=some (.struct fs))(hk:P.cellsOf t=k)(hall:∀(i:Nat) (f:Field),fs[i]? = some f→f.offset=i∧P.cellsOf f.type=1) :
  ∀n cs x,Reads enc P W n t cs=some x→bk x.1≤1048576→cs.length=k∧∀(i:Nat) (f:Field),fs[i]? = some f→i<k→∃v y m,cs[i]? = some v∧Reads enc P W m f.type [v]=some y∧bk y.1≤1048576:=by
 intro n cs x h hx
 obtain⟨xs,m,_,rfl,h1,h2,h3⟩:=DataW.trod_struct ht h
 simp only[hb.agg]at hx
 rw[hk]at h1
 refine⟨h1,fun i f hf hi=>?_⟩
 have hfi:=(Array.getElem?_eq_some_iff.1 hf).1
 obtain⟨ho,hc⟩:=hall i f hf
 have h4:=h3 i f hf
 rw[ho,hc,List.getElem?_eq_getElem (by omega)]at h4
 have e : (cs.drop i).take 1 = [cs[i]'(by omega)] := by
  rw[List.drop_eq_getElem_cons (by omega)]
  rfl
 rw[e]at h4
 exact⟨_,_,m,List.getElem?_eq_getElem (by omega),h4,Nat.le_trans (hb.memF (by omega)) (by omega)⟩
theorem two_of {cs:List Value}{a b:Value}(h:cs.length=2)(h0:cs[0]? = some a)(h1:cs[1]? = some b):cs=[a,b]:=by
 match cs,h with
 | [x,y],_=>simp at h0 h1;simp[h0,h1]
theorem three_of {cs:List Value}{a b c:Value}(h:cs.length=3)(h0:cs[0]? = some a)(h1:cs[1]? = some b)(h2:cs[2]? = some c):cs=[a,b,c]:=by
 match cs,h with
 | [x,y,z],_=>simp at h0 h1 h2;simp[h0,h1,h2]
variable {ti ts tb tis:TypeId}
theorem elem_held (hb:Bulk bk bka){t:TypeId}{f0 f1 f2:Field}(ht:P.underlying t=some (.struct #[f0,f1,f2]))(hk:P.cellsOf t=3)(hall:∀(i:Nat) (f:Field),#[f0,f1,f2][i]? = some f→f.offset=i∧P.cellsOf f.type=1)
  (e0:f0.type=ti) (e1:f1.type=tis) (e2:f2.type=ti) (hi:P.underlying ti=some (.int .i64)) (his:P.underlying tis=some (.slice ti)) (hz:P.cellsOf ti=1):Elem enc P W bk t 3 heldE:=by
 intro n cs x h hx
 obtain⟨hl,hf⟩:=struct_fields hb ht hk hall n cs x h hx
 obtain⟨v0,y0,m0,a0,b0,c0⟩:=hf 0 f0 rfl (by omega)
 obtain⟨v1,y1,m1,a1,b1,c1⟩:=hf 1 f1 rfl (by omega)
 obtain⟨v2,y2,m2,a2,b2,c2⟩:=hf 2 f2 rfl (by omega)
 rw[e0]at b0;rw[e1]at b1;rw[e2]at b2
 obtain⟨i0,_,g0,g0'⟩:=elem_int (bk:=bk) hi m0 _ _ b0 c0
 obtain⟨i2,_,g2,g2'⟩:=elem_int (bk:=bk) hi m2 _ _ b2 c2
 obtain⟨v,xs,g1,g1'⟩:=elem_slice hb his hz (by omega) (elem_int hi) m1 _ _ b1 c1
 simp only[List.cons.injEq,and_true]at g0 g1 g2
 subst g0 g1 g2
 obtain⟨a,c,rfl⟩:=g1'.shape
 exact⟨⟨i0,xs,i2⟩,hl,_,_,_,three_of hl a0 a1 a2,g0',g1',g2'⟩
theorem elem_item (hb:Bulk bk bka){t:TypeId}{f0 f1 f2:Field}(ht:P.underlying t=some (.struct #[f0,f1,f2]))(hk:P.cellsOf t=3)(hall:∀(i:Nat) (f:Field),#[f0,f1,f2][i]? = some f→f.offset=i∧P.cellsOf f.type=1)
  (e0:f0.type=ts) (e1:f1.type=tb) (e2:f2.type=tis) (hs:P.underlying ts=some .string) (hbo:P.underlying tb=some .bool) (hi:P.underlying ti=some (.int .i64)) (his:P.underlying tis=some (.slice ti)) (hz:P.cellsOf ti=1):Elem enc P W bk t 3 itemE:=by
 intro n cs x h hx
 obtain⟨hl,hf⟩:=struct_fields hb ht hk hall n cs x h hx
 obtain⟨v0,y0,m0,a0,b0,c0⟩:=hf 0 f0 rfl (by omega)
 obtain⟨v1,y1,m1,a1,b1,c1⟩:=hf 1 f1 rfl (by omega)
 obtain⟨v2,y2,m2,a2,b2,c2⟩:=hf 2 f2 rfl (by omega)
 rw[e0]at b0;rw[e1]at b1;rw[e2]at b2
 obtain⟨i0,_,g0,g0'⟩:=elem_str hb hs m0 _ _ b0 c0
 obtain⟨i1,_,g1⟩:=elem_bool (bk:=bk) hbo m1 _ _ b1 c1
 obtain⟨v,xs,g2,g2'⟩:=elem_slice hb his hz (by omega) (elem_int hi) m2 _ _ b2 c2
 simp only[List.cons.injEq,and_true]at g0 g1 g2
 subst g0 g1 g2
 obtain⟨a,c,rfl⟩:=g2'.shape
 exact⟨⟨i0,i1,xs⟩,hl,_,_,_,three_of hl a0 a1 a2,g0',g2'⟩
theorem elem_snap (hb:Bulk bk bka){t tit tits:TypeId}{f0 f1:Field}(ht:P.underlying t=some (.struct #[f0,f1]))(hk:P.cellsOf t=2)(hall:∀(i:Nat) (f:Field),#[f0,f1][i]? = some f→f.offset=i∧P.cellsOf f.type=1)
  (e0:f0.type=ts) (e1:f1.type=tits) (hs:P.underlying ts=some .string) (his:P.underlying tits=some (.slice tit)) (hz:P.cellsOf tit=3) (hit:Elem enc P W bk tit 3 itemE):Elem enc P W bk t 2 snapE:=by
 intro n cs x h hx
 obtain⟨hl,hf⟩:=struct_fields hb ht hk hall n cs x h hx
 obtain⟨v0,y0,m0,a0,b0,c0⟩:=hf 0 f0 rfl (by omega)
 obtain⟨v1,y1,m1,a1,b1,c1⟩:=hf 1 f1 rfl (by omega)
 rw[e0]at b0;rw[e1]at b1
 obtain⟨i0,_,g0,g0'⟩:=elem_str hb hs m0 _ _ b0 c0
 obtain⟨v,xs,g1,g1'⟩:=elem_slice hb his hz (by omega) hit m1 _ _ b1 c1
 simp only[List.cons.injEq,and_true]at g0 g1
 subst g0 g1
 obtain⟨a,c,rfl⟩:=g1'.shape
 exact⟨⟨i0,xs⟩,hl,_,_,_,two_of hl a0 a1,g0',g1'⟩
theorem elem_disk (hb:Bulk bk bka){t the thes tit tits tsn tsns:TypeId}{f0 f1 f2:Field}(ht:P.underlying t=some (.struct #[f0,f1,f2]))(hk:P.cellsOf t=3)(hall:∀(i:Nat) (f:Field),#[f0,f1,f2][i]? = some f→f.offset=i∧P.cellsOf f.type=1)
  (e0:f0.type=thes) (e1:f1.type=tits) (e2:f2.type=tsns) (h0:P.underlying thes=some (.slice the)) (h1:P.underlying tits=some (.slice tit)) (h2:P.underlying tsns=some (.slice tsn)) (z0:P.cellsOf the=3) (z1:P.cellsOf tit=3) (z2:P.cellsOf tsn=2)
  (hh:Elem enc P W bk the 3 heldE) (hit:Elem enc P W bk tit 3 itemE) (hsn:Elem enc P W bk tsn 2 snapE):Elem enc P W bk t 3 diskE:=by
 intro n cs x h hx
 obtain⟨hl,hf⟩:=struct_fields hb ht hk hall n cs x h hx
 obtain⟨v0,y0,m0,a0,b0,c0⟩:=hf 0 f0 rfl (by omega)
 obtain⟨v1,y1,m1,a1,b1,c1⟩:=hf 1 f1 rfl (by omega)
 obtain⟨v2,y2,m2,a2,b2,c2⟩:=hf 2 f2 rfl (by omega)
 rw[e0]at b0;rw[e1]at b1;rw[e2]at b2
 obtain⟨u0,x0,g0,g0'⟩:=elem_slice hb h0 z0 (by omega) hh m0 _ _ b0 c0
 obtain⟨u1,x1,g1,g1'⟩:=elem_slice hb h1 z1 (by omega) hit m1 _ _ b1 c1
 obtain⟨u2,x2,g2,g2'⟩:=elem_slice hb h2 z2 (by omega) hsn m2 _ _ b2 c2
 simp only[List.cons.injEq,and_true]at g0 g1 g2
 subst g0 g1 g2
 obtain⟨a,c,rfl⟩:=g0'.shape
 obtain⟨a',c',rfl⟩:=g1'.shape
 obtain⟨a'',c'',rfl⟩:=g2'.shape
 exact⟨⟨x0,x1,x2⟩,hl,_,_,_,_,_,_,_,_,_,three_of hl a0 a1 a2,g0',g1',g2'⟩
theorem same_of_ext {w w':World}(h:Ext w w'){p:MemPlace}(hp:p.block<w.heap.size):w.sameAt w' p:=by
 have hb:=h.block p.block hp
 cases p with
 | cell b off=>simp only[World.sameAt,World.cell?];simp only[MemPlace.block]at hb;rw[hb]
 | map b=>simp only[World.sameAt];simpa [MemPlace.block] using hb
end
end Fw
namespace Fw
open Go Go.ChangeShapes Go.WideShapes
section
variable {H:Type} {enc:TypeId×Value→H} {P:Program}
theorem trodAll_stays (hl:laidOutB P=true){W W':World}{sp':Nat→Bool}:∀{ts:List TypeId} {vs:List Value} {ds:List (DataW H)} {ps:List MemPlace},(∀t,t ∈ ts→P.readableRec t=true∧t<P.types.size) →
  DataW.TrodAll enc P W 0 (fun _=>true) true ts vs ds ps→(∀p ∈ ps,W.sameAt W' p)→(∀p ∈ ps,sp' p.block=true)→DataW.TrodAll enc P W' 0 sp' true ts vs ds ps
 | [], _, _, _, _, h, _, _ => by
  obtain⟨rfl,rfl,rfl⟩:=trodAll_nil h
  rfl
 | t :: ts, _, _, _, hr, h, hs, hq => by
  obtain⟨v,vs1,d,ds1,a,b,rfl,rfl,rfl,h1,h2⟩:=trodAll_cons h
  exact ⟨a, b, WideElems.Trod_stays hl (hr t (by simp)).1 (hr t (by simp)).2 h1 (fun p hp => hs p (by simp [hp])) (fun p hp => hq p (by simp [hp])),
   trodAll_stays hl (fun t ht=>hr t (by simp[ht])) h2 (fun p hp=>hs p (by simp[hp])) (fun p hp=>hq p (by simp[hp])),rfl⟩
theorem kept_of_ext {W W':World}(h:Ext W W')(may:MemPlace→Prop):W.keptBut W' may:=by
 refine⟨h.os,h.output,fun i hi=>?_⟩
 rw[h.block i hi]
 cases W.heap[i]? with
 | none=>simp
 | some o=>cases o<;>simp
theorem law_post {f:Func}{s:ChangeSpec}{apart fresh handsOn again:Bool}{W W':World}{args:Array Value}{ds gs:List (DataW H)}{before:List MemPlace}(hl:laidOutB P=true)(hr:∀t,t ∈ f.params.toList→P.readableRec t=true∧t<P.types.size)
  (hv:s.vars=[]) (hW:DataW.Whole enc P f.params.toList s.vars apart W args.toList ds gs before) (hx:Ext W W') (hfr:(s.fn H (ds++gs)).results=[.lit (.bool true)]) (hfa:(s.fn H (ds++gs)).args=ds) (hfv:(s.fn H (ds++gs)).vars=[])
  (hres:∀(b:Nat) (sp:Nat→Bool) (hd:Bool),DataW.TrodAll enc P W' b sp hd f.resultTypes.toList ((Value.bool true).resultList f.resultTypes.size) [.lit (.bool true)] [])
  (hok:∀(j:Nat) (t:TypeId) (r:Value),f.resultTypes[j]? = some t→((Value.bool true).resultList f.resultTypes.size)[j]? = some r→Value.okWide P W' .any 0 t r) :
  s.post enc P f apart fresh handsOn again W args (.bool true) W':=by
 have hW':=hW
 obtain⟨p,q,hA,hV,rfl,hz,hn⟩:=hW
 rw[hv]at hV
 have hgs:gs=[]∧q=[]:=by
  cases gs with
  | nil=>exact⟨rfl,hV⟩
  | cons d r=>exact hV.elim
 obtain⟨rfl,rfl⟩:=hgs
 rw[List.append_nil]at hW' hz hn
 have hlt:∀m ∈ p,m.block<W.heap.size:=fun m hm=>hW'.lt m hm
 have hold:∀m ∈ p,(fun b=>decide (b<W.heap.size)) m.block=true:=fun m hm=>by simpa using hlt m hm
 have hargs : ∀ sp : Nat → Bool, (∀ m ∈ p, sp m.block = true) → DataW.TrodAll enc P W' 0 sp true f.params.toList args.toList (s.fn H (ds ++ [])).args p := fun sp hsp => by
  rw[hfa]
  exact trodAll_stays hl hr hA (fun m hm=>same_of_ext hx (hlt m hm)) hsp
 have hvars:∀sp:Nat→Bool,DataW.TrodVars enc P W' sp s.vars (s.fn H (ds++[])).vars []:=fun sp=>by rw[hv,hfv];rfl
 have hres':∀(b:Nat) (sp:Nat→Bool) (hd:Bool),DataW.TrodAll enc P W' b sp hd f.resultTypes.toList ((Value.bool true).resultList f.resultTypes.size) (s.fn H (ds++[])).results []:=fun b sp hd=>by rw[hfr];exact hres b sp hd
 refine⟨ds,[],p,[],p,[],hW',hres' _ _ _,hargs _ hold,hvars _,World.keptBut_mono (fun m hm=>⟨hm,Or.inr ?_⟩) (kept_of_ext hx (· ∈ p)),fun _=>?_⟩
 ·simpa using hm
 ·refine⟨hok,_,_,([]++p)++[],⟨[]++p,[],trodAll_append (hargs _ (fun _ _=>rfl)) (hres' _ _ _),hvars _,rfl,?_,?_⟩,?_⟩
  ·intro b off hp
   have hp':MemPlace.cell b off ∈ p:=by simpa using hp
   have h1:=hz b off hp'
   have h2:=hx.block b (hlt _ hp')
   simp only[World.frozen?]at h1 ⊢
   rw[h2]
   exact h1
  ·intro ha
   simpa using hn ha
  ·intro m hm _
   simpa using hm
end
end Fw
namespace Fw
open Go Go.WideShapes
theorem agg_of {P:Program}{W:World}{b:Nat}{t:TypeId}{fs:Array Field}{v:Value}(ht:P.underlying t=some (.struct fs))(h:Value.okWide P W .any b t v):∃cs:List Value,v= .agg cs.toArray:=by
 unfold Value.okWide at h
 rw[ht]at h
 obtain⟨cs,rfl,_⟩:=h
 exact⟨cs.toList,by simp⟩
theorem slice_of {P:Program}{W:World}{b:Nat}{t e:TypeId}{v u:Value}(ht:P.underlying t=some (.slice e))(h:Value.okWide P W .any b t v)(hu:v.cells.toList=[u]):v=u:=by
 unfold Value.okWide at h
 rw[ht]at h
 unfold Cell.okWide at h
 rw[ht]at h
 cases v<;>simp_all [Value.cells,Cell.ok]
end Fw
namespace Fw
open Go
def opO:Fr→BOp→List Value→Prop:=fun F x cs=>∃a m c,cs=[.int .i64 x.kind,str x.path,.slice a m c]∧inI x.kind∧x.path.length≤16777216∧OI F (.slice a m c) x.bytes
abbrev OOp (F:Fr) (v:Value) (xs:List BOp):Prop:=∃e,OwnS opO 3 e F v xs
theorem opO.rd {F:Fr}{x:BOp}{cs:List Value}{G:PH}(h:opO F x cs)(hle:PLe (fh F) G)(hn:(dm F).Nodup):opE G x cs:=by
 obtain⟨a,m,c,rfl,h1,h2,h3⟩:=h
 exact⟨a,m,c,rfl,h1,h2,h3.rd hle hn⟩
theorem OOp.rd {F:Fr}{v:Value}{xs:List BOp}{G:PH}(h:OOp F v xs)(hle:PLe (fh F) G)(hn:(dm F).Nodup):RdOp G v xs:=let ⟨_,h⟩:=h;h.rd hle hn (fun _ _ _ h1 h2 h=>opO.rd h h1 h2)
theorem OOp.mk {e:TypeId}{F:Fr}{v:Value}{xs:List BOp}(h:OwnS opO 3 e F v xs):OOp F v xs:=⟨_,h⟩
def partO:Fr→BPart→List Value→Prop:=fun F x cs=>∃a m c,cs=[.int .i64 x.kind,str x.path,.bool x.dir,.slice a m c]∧inI x.kind∧x.path.length≤16777216∧OI F (.slice a m c) x.bytes
abbrev OPt (F:Fr) (v:Value) (xs:List BPart):Prop:=∃e,OwnS partO 4 e F v xs
theorem partO.rd {F:Fr}{x:BPart}{cs:List Value}{G:PH}(h:partO F x cs)(hle:PLe (fh F) G)(hn:(dm F).Nodup):partE G x cs:=by
 obtain⟨a,m,c,rfl,h1,h2,h3⟩:=h
 exact⟨a,m,c,rfl,h1,h2,h3.rd hle hn⟩
theorem OPt.rd {F:Fr}{v:Value}{xs:List BPart}{G:PH}(h:OPt F v xs)(hle:PLe (fh F) G)(hn:(dm F).Nodup):RdPart G v xs:=let ⟨_,h⟩:=h;h.rd hle hn (fun _ _ _ h1 h2 h=>partO.rd h h1 h2)
theorem OPt.mk {e:TypeId}{F:Fr}{v:Value}{xs:List BPart}(h:OwnS partO 4 e F v xs):OPt F v xs:=⟨_,h⟩
section
variable {w0 w w':World} {G0 G G':PH} {S:List Nat} {B Bs:List Res}
end
section
variable {H:Type} {enc:TypeId×Value→H} {P:Program} {W:World} {bk:DataW H→Nat} {bka:List (DataW H)→Nat} {ti ts tb tis:TypeId}
end
section
variable {κ:Type} [DecidableEq κ] {key:κ→Value}
structure KeyA (P:Program) (k:TypeId) (key:κ→Value):Prop where
 find:∀(es:Array MapEntry) (clock:Nat) (xs:List (κ×Value)),MapIs key es clock xs→∀a w,(Instr.findKey k (key a) es.toList).run P w= .ok (fnd a xs 0) w
 bits:∀a,Instr.sameBits 10000 (key a) (key a)=true
 chk:∀e a w,(Instr.checkKey e 10000 k (key a)).run P w= .ok () w
theorem keyA_of {P:Program}{k:TypeId}(hnow:∃kd,P.underlying k=some kd∧∀a b,Instr.sameNow kd (key a) (key b)=none)(heq:∀a b w,(Op.equal k (key a) (key b)).run P w= .ok (decide (a=b)) w)
  (hb:∀a,Instr.sameBits 10000 (key a) (key a)=true) (hc:∀e a w,(Instr.checkKey e 10000 k (key a)).run P w= .ok () w):KeyA P k key where
 bits:=hb
 chk:=hc
 find es clock xs hm a w:=by
  obtain⟨kd,hk,hs⟩:=hnow
  have ask : ∀ (l : List MapEntry) (ys : List (κ × Value)) (i : Nat), l.map (fun e => (e.key, e.val)) = ys.map (fun x => (key x.1, x.2)) → (Instr.findAsking k (key a) l i).run P w = .ok (fnd a ys i) w := by
   intro l
   induction l with
   | nil => intro ys i h; cases ys with
    | nil=>rfl
    | cons y t=>simp at h
   | cons e t ih =>
    intro ys i h
    cases ys with
    | nil=>simp at h
    | cons y r =>
     obtain⟨k',v'⟩:=y
     simp only[List.map_cons,List.cons.injEq,Prod.mk.injEq]at h
     obtain⟨⟨h1,h2⟩,h3⟩:=h
     simp only[Instr.findAsking,h1,Sem.run_bind,heq,Result.andThen_ok,fnd]
     by_cases e':a=k'
     ·subst e';simp[h2]
     ·simp only[e',decide_false,if_false,Bool.false_eq_true]
      exact ih r (i+1) h3
  have hkv:=hm.kv
  simp only[Instr.findKey,Sem.run_bind,run_underlying hk,Result.andThen_ok]
  generalize es.toList=l at hkv
  cases l with
  | nil =>
   cases xs with
   | nil=>rfl
   | cons y t=>simp at hkv
  | cons e t =>
   cases xs with
   | nil=>simp at hkv
   | cons y r =>
    have h1:e.key=key y.1:=by simp only[List.map_cons,List.cons.injEq,Prod.mk.injEq]at hkv;exact hkv.1.1
    simp only[Instr.findNow,h1,hs]
    exact ask _ _ 0 hkv
section
variable {P:Program} {t k e:TypeId} {b:Nat} {es:Array MapEntry} {clock:Nat} {xs:List (κ×Value)} {w:World}
theorem run_lookA (K:KeyA P k key)(ht:P.underlying t=some (.map k e)){zv:Value}(hz:∀w,(zeroValue e).run P w= .ok zv w)(hb:w.heap[b]? = some (.map es clock))(hm:MapIs key es clock xs)(a:κ)(c:Bool) :
  (Instr.lookup t (.map (some b)) (key a) c).run P w= .ok (if c then .tuple #[(look xs a).getD zv,.bool (look xs a).isSome] else(look xs a).getD zv) w:=by
 simp only[Instr.lookup,Sem.run_bind,run_underlying ht,Result.andThen_ok,getObj_at hb,K.chk,K.find _ _ _ hm,Sem.run_pure,look]
 cases h:fnd a xs 0 with
 | none=>cases c<;>simp[hz]
 | some p=>cases c<;>simp
theorem run_updA (K:KeyA P k key)(ht:P.underlying t=some (.map k e))(hb:w.heap[b]? = some (.map es clock))(hm:MapIs key es clock xs)(a:κ)(v:Value) :
  ∃es' clock',(Instr.mapUpdate t (.map (some b)) (key a) v).run P w= .ok () (ChangeMaps.setBlock w b (.map es' clock'))∧MapIs key es' clock' (upd xs a v):=by
 simp only[Instr.mapUpdate,Sem.run_bind,run_underlying ht,Result.andThen_ok,getObj_at hb,K.chk,K.find _ _ _ hm,upd]
 cases h:fnd a xs 0 with
 | none=>exact⟨_,_,setObj_at hb _,hm.push (fnd_none h) v⟩
 | some p =>
  obtain⟨i,u⟩:=p
  have hx:=fnd_some h
  have hj:=congrArg (fun l=>l[i]?) hm.kv
  simp only[List.getElem?_map,Array.getElem?_toList,hx,Option.map_some]at hj
  cases hes:es[i]? with
  | none=>simp[hes]at hj
  | some e0 =>
   simp only[hes,Option.map_some,Option.some.injEq,Prod.mk.injEq]at hj
   refine⟨es.modify i fun e=>{e with key:=key a,val:=v},clock,?_,hm.modify hx v⟩
   simp only[hes,Option.map_some,Option.getD_some,hj.1,Instr.keyThatStays,K.bits,if_true,Sem.run_pure,Result.andThen_ok,Sem.run_bind,setObj_at hb]
end
theorem look_keys {xs:List (κ×Value)}{a:κ}(nd:(xs.map (·.1)).Nodup):(look xs a).isSome=true↔a ∈ xs.map (·.1):=by
 constructor
 ·intro h
  obtain⟨v,hv⟩:=Option.isSome_iff_exists.1 h
  exact List.mem_map.2 ⟨(a,v),look_mem' hv,rfl⟩
 ·intro h
  obtain⟨⟨a',v⟩,hm,rfl⟩:=List.mem_map.1 h
  rw[look_mem nd hm]
  rfl
end
section ops
variable {P:Program} {n:Nat} {ops:Array Oper} {Q:Post} {rest:List Oper} {L:Slots} {ds:List Deferred} {w w0:World} {G0:PH} {S:List Nat} {G:PH} {B:List Res} {ty:TypeId} {ps:String} {af:Array Edge}
variable {κ:Type} [DecidableEq κ] {key:κ→Value} {t k e:TypeId} {b:Nat} {es:Array MapEntry} {clock:Nat} {xs:List (κ×Value)} {a:κ}
theorem o_lookA2 (K:KeyA P k key){d:Nat}{x y:Operand}{zv:Value}(hb:w.heap[b]? = some (.map es clock))(hm:MapIs key es clock xs)(ht:P.underlying t=some (.map k e))(hz:∀w,(zeroValue e).run P w= .ok zv w)(hd:Nat.blt d n=true)(hx:od L x=some (.map (some b)))(hy:od L y=some (key a))
  (next:R P n ops Q rest ((d,.tuple #[(look xs a).getD zv,.bool (look xs a).isSome])::L) ds w):R P n ops Q (⟨some d,.lookup t x y true,ty,ps,af,none⟩::rest) L ds w :=
 R_run hd (fun a' ha => by
  have:=run_lookA K ht hz hb hm a true
  simp only[execOp,ha.eval hx,ha.eval hy,Sem.run_bind,this,if_true,Result.andThen_ok,Sem.run_pure]) next
theorem o_updA (K:KeyA P k key)(k0:Nat)(H:Hp w0 G0 S w G B){x y z:Operand}{v:Value}(hk0:nth B k0=some (blk b (.map es clock)))(hm:MapIs key es clock xs)(ht:P.underlying t=some (.map k e))
  (hx:od L x=some (.map (some b))) (hy:od L y=some (key a)) (hz:od L z=some v)
  (next:∀es' clock' w',Hp w0 G0 S w' G (setN B k0 (blk b (.map es' clock')))→MapIs key es' clock' (upd xs a v)→R P n ops Q rest L ds w'):R P n ops Q (⟨none,.mapUpdate t x y z,ty,ps,af,none⟩::rest) L ds w:=by
 obtain⟨es',clock',hr,hm'⟩:=run_updA K ht (H.at hk0) hm a v
 exact R_skip (fun a' ha => by
  simp only[execOp,ha.eval hx,ha.eval hy,ha.eval hz,Sem.run_map,Sem.run_bind,hr]
  rfl) (next es' clock' _ (setBlk H hk0 _) hm')
def seenK (key:κ→Value)(es:Array MapEntry)(seen:Array Nat)(a:κ):Prop:=∃e,e ∈ es.toList∧e.key=key a∧e.born ∈ seen
theorem born_uniq {e e':MapEntry}:∀(l:List MapEntry),(l.map (·.born)).Nodup→e ∈ l→e' ∈ l→e'.born=e.born→e'=e
 | [],_,h,_,_=>by simp at h
 | z :: r, nd, a, b, c => by
  simp only[List.map_cons,List.nodup_cons]at nd
  rcases List.mem_cons.1 a with rfl|a1<;>rcases List.mem_cons.1 b with rfl|b1
  ·rfl
  ·exact(nd.1 (List.mem_map.2 ⟨e',b1,c⟩)).elim
  ·exact(nd.1 (List.mem_map.2 ⟨e,a1,c.symm⟩)).elim
  ·exact born_uniq r nd.2 a1 b1 c
theorem key_uniq (hinj:∀a b,key a=key b→a=b)(hm:MapIs key es clock xs){e1 e2:MapEntry}{a:κ}(h1:e1 ∈ es.toList)(h2:e2 ∈ es.toList)(k1:e1.key=key a)(k2:e2.key=key a):e1=e2:=by
 have hk : es.toList.map (·.key) = xs.map (fun x => key x.1) := by
  have:=congrArg (List.map Prod.fst) hm.kv
  simpa [List.map_map,Function.comp_def] using this
 have hn:(es.toList.map (·.key)).Nodup:=by
  rw[hk,show xs.map (fun x=>key x.1)=(xs.map (·.1)).map key by simp[List.map_map,Function.comp_def]]
  exact List.Pairwise.map key (fun a b hab h=>hab (hinj _ _ h)) hm.nd
 have key':∀(l:List MapEntry),(l.map (·.key)).Nodup→e1 ∈ l→e2 ∈ l→e1=e2:=by
  intro l
  induction l with
  | nil=>intro _ h;simp at h
  | cons z r ih =>
   intro nd p q
   simp only[List.map_cons,List.nodup_cons]at nd
   rcases List.mem_cons.1 p with rfl|p1<;>rcases List.mem_cons.1 q with rfl|q1
   ·rfl
   ·exact(nd.1 (List.mem_map.2 ⟨e2,q1,by rw[k2,k1]⟩)).elim
   ·exact(nd.1 (List.mem_map.2 ⟨e1,p1,by rw[k1,k2]⟩)).elim
   ·exact ih nd.2 p1 q1
 exact key' _ hn h1 h2
theorem o_nextK (hinj:∀a b,key a=key b→a=b)(k0:Nat)(H:Hp w0 G0 S w G B){d:Nat}{x:Operand}{r:Nat}{seen:Array Nat}
  (hb:w.heap[b]? = some (.map es clock)) (hm:MapIs key es clock xs) (hk0:nth B k0=some (blk r (.mapIter (some b) clock seen clock))) (hrb:r≠b) (hd:Nat.blt d n=true) (hx:od L x=some (.pointer (some ⟨r,0,none⟩)))
  (over:(∀a,a ∈ xs.map (·.1)→seenK key es seen a)→R P n ops Q rest ((d,.tuple #[.bool false])::L) ds w)
  (step:∀(e:MapEntry) (a:κ) (w':World),e ∈ es.toList→e.key=key a→a ∈ xs.map (·.1)→¬seenK key es seen a→(∀c,seenK key es (seen.push e.born) c↔c=a∨seenK key es seen c)→w'.heap[b]? = some (.map es clock)→(leftOf es (seen.push e.born)).size<(leftOf es seen).size →
   Hp w0 G0 S w' G (setN B k0 (blk r (.mapIter (some b) clock (seen.push e.born) clock)))→R P n ops Q rest ((d,.tuple #[.bool true,key a,e.val])::L) ds w') :
  R P n ops Q (⟨some d,.next x false,ty,ps,af,none⟩::rest) L ds w:=by
 rcases run_next_at (P:=P) w ty r b clock clock seen es clock (H.at hk0) hb hm.lt (Nat.le_refl _) with ⟨h1,h2⟩|⟨e,he,w1,hw,h2⟩
 ·refine R_run hd (fun a ha=>?_) (over (fun y hy=>?_))
  ·simp only[execOp,ha.eval hx,Sem.run_bind,h2,Result.andThen_ok,Sem.run_pure]
  ·obtain⟨x,hx,rfl⟩:=List.mem_map.1 hy
   have:(key x.1,x.2) ∈ es.toList.map (fun e=>(e.key,e.val)):=by rw[hm.kv];exact List.mem_map.2 ⟨x,hx,rfl⟩
   obtain⟨e,he,h4⟩:=List.mem_map.1 this
   simp only[Prod.mk.injEq]at h4
   refine⟨e,he,h4.1,?_⟩
   have hz:(leftOf es seen)= #[]:=Array.eq_empty_of_size_eq_zero h1
   refine Classical.byContradiction fun hn=>?_
   have:=leftOf_mem.2 ⟨he,hn⟩
   rw[hz]at this
   simp at this
 ·have hel:=(leftOf_mem.1 he)
  have:(e.key,e.val) ∈ xs.map (fun x=>(key x.1,x.2)):=by rw[←hm.kv];exact List.mem_map.2 ⟨e,hel.1,rfl⟩
  obtain⟨x,hx1,hx2⟩:=List.mem_map.1 this
  simp only[Prod.mk.injEq]at hx2
  have hkey:e.key=key x.1:=hx2.1.symm
  have Hw:Hp w0 G0 S w1 G B:=by
   rcases hw with rfl|rfl
   ·exact H
   ·exact H.step (Ext.refl w).drew
  refine R_run (w':=ChangeMaps.setBlock w1 r (.mapIter (some b) clock (seen.push e.born) clock)) hd (fun a ha=>?_) (step e x.1 _ hel.1 hkey (List.mem_map.2 ⟨x,hx1,rfl⟩) ?_ ?_ ?_ (leftOf_less he) (setBlk Hw hk0 _))
  ·simp only[execOp,ha.eval hx,Sem.run_bind,h2,hkey,Result.andThen_ok,Sem.run_pure]
  ·rintro⟨e2,g1,g2,g3⟩
   have:=key_uniq hinj hm g1 hel.1 g2 hkey
   subst this
   exact hel.2 g3
  ·intro c
   constructor
   ·rintro⟨e2,g1,g2,g3⟩
    rcases Array.mem_push.1 g3 with g3|g3
    ·exact .inr ⟨e2,g1,g2,g3⟩
    ·have:=born_uniq _ hm.born hel.1 g1 g3
     subst this
     exact .inl (hinj _ _ (g2.symm.trans hkey))
   ·rintro(rfl|⟨e2,g1,g2,g3⟩)
    ·exact⟨e,hel.1,hkey,by simp⟩
    ·exact⟨e2,g1,g2,by simp[g3]⟩
  ·have hb1:w1.heap[b]? = some (.map es clock):=by rcases hw with rfl|rfl<;>exact hb
   simpa [ChangeMaps.setBlock,hrb] using hb1
theorem o_entryK (k0:Nat)(H:Hp w0 G0 S w G B){d:Nat}{x:Operand}{r:Nat}{seen:Array Nat}{e:MapEntry}
  (hb:w.heap[b]? = some (.map es clock)) (hm:MapIs key es clock xs) (hk0:nth B k0=some (blk r (.mapIter (some b) clock (seen.push e.born) clock))) (he:e ∈ es.toList) (hkey:e.key=key a) (hd:Nat.blt d n=true) (hx:od L x=some (.pointer (some ⟨r,0,none⟩)))
  (next:R P n ops Q rest ((d,.tuple #[key a,e.val])::L) ds w):R P n ops Q (⟨some d,.entry x,ty,ps,af,none⟩::rest) L ds w :=
 R_run hd (fun a' ha => by
  have:=run_entry_at (P:=P) w r b clock seen es clock e (H.at hk0) hb he hm.born
  simp only[execOp,ha.eval hx,Sem.run_bind,this,hkey,Result.andThen_ok,Sem.run_pure]) next
theorem come_step {pre:List κ}{seen:Array Nat}{a:κ}{bn:Nat}(hp:∀c,c ∈ pre↔seenK key es seen c)(hnd:pre.Nodup)(hn:¬seenK key es seen a)(hs:∀c,seenK key es (seen.push bn) c↔c=a∨seenK key es seen c) :
  (∀c,c ∈ pre++[a]↔seenK key es (seen.push bn) c)∧(pre++[a]).Nodup:=by
 refine⟨fun c=>?_,?_⟩
 ·rw[hs,List.mem_append,hp]
  simp[or_comm]
 ·rw[List.nodup_append]
  refine⟨hnd,by simp,?_⟩
  intro x hx y hy e
  simp at hy
  subst hy e
  exact hn ((hp _).1 hx)
end ops
end Fw
namespace Fw
open Go Go.Shelf Go.RowKit Go.Lib Go.Sort Go.Proofs
def cmpS (a b:Bs):Int:=if Op.bytesLess a b then -1 else if Op.bytesLess b a then 1 else 0
end Fw
namespace Fw
structure BHold where
 snap:Bs
 tag:Bs
end Fw
namespace Sp
open Fw Nd
def l31Before (a b:BHold):Bool:=lt a.snap b.snap||(decide (a.snap=b.snap)&&lt a.tag b.tag)
def l31Ok (h:BHold):Bool:=l1Word h.snap&&l1Word h.tag
def holdOk (l : List BHold) (i : Nat) : Bool := match l[i]? with
 | some h => l31Ok h && (decide (i = 0) || match l[i - 1]? with
  | some g=>l31Before g h
  | none=>false)
 | none=>false
def HoldsValid (l:List BHold):Bool:=(List.range l.length).all (holdOk l)&&decide (l.length≤8)
def HoldTags (l:List BHold)(s:Bs):List Bs:=if HoldsValid l then(l.filter (fun h=>decide (h.snap=s))).map (·.tag) else[]
def putH (l:List BHold)(h:BHold):List BHold:=l.takeWhile (fun g=> !l31Before h g)++h::l.dropWhile (fun g=> !l31Before h g)
def DropFree (d:BDisk)(l:List BHold)(s:Bs):Option BDisk:=if HoldsValid l&&decide (HoldTags l s=[]) then SnapDrop d s else none
section
variable {d d1:BDisk} {l:List BHold} {s:Bs}
theorem free_get (h:DropFree d l s=some d1):HoldsValid l=true∧HoldTags l s=[]∧SnapDrop d s=some d1:=by
 unfold DropFree at h
 split at h
 ·rename_i hc
  simp only[Bool.and_eq_true,decide_eq_true_eq]at hc
  exact⟨hc.1,hc.2,h⟩
 ·cases h
theorem free_valid (h:DropFree d l s=some d1):DiskValid d1=true:=sdrop_valid (free_get h).2.2
end
def hlt (a b:BHold):Prop:=l31Before a b=true
theorem hlt_trans {a b c:BHold}(h1:hlt a b)(h2:hlt b c):hlt a c:=by
 unfold hlt l31Before at *
 simp only[Bool.or_eq_true,Bool.and_eq_true,decide_eq_true_eq]at *
 rcases h1 with h1|⟨h1,h3⟩
 ·rcases h2 with h2|⟨h2,_⟩
  ·exact .inl (lt_trans h1 h2)
  ·exact .inl (h2▸h1)
 ·rcases h2 with h2|⟨h2,h4⟩
  ·exact .inl (h1▸h2)
  ·exact .inr ⟨h1.trans h2,lt_trans h3 h4⟩
theorem hlt_irrefl (a:BHold):¬hlt a a:=by simp[hlt,l31Before,lt_irrefl]
theorem hlt_total (a b:BHold):hlt a b∨a=b∨hlt b a:=by
 obtain⟨x,y⟩:=a
 obtain⟨x',y'⟩:=b
 unfold hlt l31Before
 simp only[Bool.or_eq_true,Bool.and_eq_true,decide_eq_true_eq,BHold.mk.injEq]
 rcases lt_total x x' with h|rfl|h
 ·exact .inl (.inl h)
 ·rcases lt_total y y' with h|rfl|h
  ·exact .inl (.inr ⟨rfl,h⟩)
  ·exact .inr (.inl ⟨rfl,rfl⟩)
  ·exact .inr (.inr (.inr ⟨rfl,h⟩))
 ·exact .inr (.inr (.inl h))
structure HV (l:List BHold):Prop where
 asc:l.Pairwise hlt
 ok:∀h,h ∈ l→l31Ok h=true
 len:l.length≤8
theorem hvalid_iff {l:List BHold}:HoldsValid l=true↔HV l:=by
 unfold HoldsValid
 simp only[Bool.and_eq_true,List.all_eq_true,List.mem_range,decide_eq_true_eq]
 constructor
 ·rintro⟨h1,h2⟩
  refine⟨?_,fun h hh=>?_,h2⟩
  ·have step : ∀ i (hi : i + 1 < l.length), hlt l[i] l[i + 1] := fun i hi => by
    have:=h1 (i+1) hi
    unfold holdOk at this
    rw[List.getElem?_eq_getElem hi]at this
    simp only[Nat.add_sub_cancel,List.getElem?_eq_getElem (show i<l.length by omega),Bool.and_eq_true,Bool.or_eq_true,decide_eq_true_eq]at this
    rcases this.2 with h|h
    ·omega
    ·exact h
   rw[List.pairwise_iff_getElem]
   intro i j hi hj hij
   have key:∀k i (hi:i<l.length) (hj:i+k+1<l.length),hlt l[i] l[i+k+1]:=by
    intro k
    induction k with
    | zero=>intro i hi hj;exact step i hj
    | succ k ih=>intro i hi hj;exact hlt_trans (ih i hi (by omega)) (step (i+k+1) hj)
   have:=key (j-i-1) i hi (by omega)
   have e:i+(j-i-1)+1=j:=by omega
   simp only[e]at this
   exact this
  ·obtain⟨i,hi⟩:=List.getElem?_of_mem hh
   have:=h1 i (List.getElem?_eq_some_iff.1 hi).1
   unfold holdOk at this
   rw[hi]at this
   simp only[Bool.and_eq_true]at this
   exact this.1
 ·rintro⟨h1,h2,h3⟩
  refine⟨fun i hi=>?_,h3⟩
  unfold holdOk
  rw[List.getElem?_eq_getElem hi]
  simp only[Bool.and_eq_true,Bool.or_eq_true,decide_eq_true_eq]
  refine⟨h2 _ (List.getElem_mem hi),?_⟩
  by_cases h0:i=0
  ·exact .inl h0
  ·right
   rw[List.getElem?_eq_getElem (show i-1<l.length by omega)]
   exact List.pairwise_iff_getElem.1 h1 (i-1) i (by omega) hi (by omega)
end Sp
namespace Fw
open Go Go.RowKit Go.Shelf Go.Lib Go.Sort Go.Proofs
instance inhHold:Inhabited BHold:=⟨⟨[],[]⟩⟩
def encH (x:BHold):List Value:=[str x.snap,str x.tag]
def smallH (x:BHold):Prop:=x.snap.length≤16777216∧x.tag.length≤16777216
def holdE:PH→BHold→List Value→Prop:=fun _ x cs=>cs=[str x.snap,str x.tag]∧x.snap.length≤16777216∧x.tag.length≤16777216
instance:MonoE holdE:=⟨fun _ h=>h⟩
theorem zeroHold (G:PH):holdE G ⟨[],[]⟩ [str [],str []]:=⟨rfl,by decide,by decide⟩
def cmpH (a b:BHold):Int:=if cmpS a.snap b.snap=0 then cmpS a.tag b.tag else cmpS a.snap b.snap
theorem cmpS_lt (x y:Bs):(cmpS x y<0↔Sp.lt x y=true)∧(cmpS x y=0↔x=y):=by
 unfold cmpS Sp.lt
 rcases Sp.lt_total x y with h|rfl|h
 ·have h':Op.bytesLess x y=true:=h
  refine⟨by simp[h'],?_⟩
  simp only[h',if_true]
  refine⟨fun e=>absurd e (by decide),fun e=>?_⟩
  subst e
  exact absurd h (by simp[Sp.lt_irrefl])
 ·have h':Op.bytesLess x x=false:=Sp.lt_irrefl x
  simp[h']
 ·have h':Op.bytesLess y x=true:=h
  have h2:Op.bytesLess x y=false:=by
   cases e:Op.bytesLess x y with
   | false=>rfl
   | true=>exact absurd (Sp.lt_trans e h') (by simp[Sp.lt_irrefl])
  simp only[h2,h',if_true,Bool.false_eq_true,if_false]
  refine⟨by simp,?_⟩
  refine⟨fun e=>absurd e (by decide),fun e=>?_⟩
  subst e
  rw[h2]at h';cases h'
theorem cmpH_lt (a b:BHold):cmpH a b<0↔Sp.l31Before a b=true:=by
 unfold cmpH Sp.l31Before
 simp only[Bool.or_eq_true,Bool.and_eq_true,decide_eq_true_eq]
 have h1:=cmpS_lt a.snap b.snap
 have h2:=cmpS_lt a.tag b.tag
 by_cases e:a.snap=b.snap
 ·rw[if_pos (h1.2.2 e),h2.1,e]
  simp[Sp.lt_irrefl]
 ·rw[if_neg (fun h=>e (h1.2.1 h)),h1.1]
  simp[e]
theorem ltOf_cmpH (x y:BHold):ltOf cmpH x y=Sp.l31Before x y:=by
 unfold ltOf
 have:=cmpH_lt x y
 cases e:Sp.l31Before x y with
 | true=>simp[this.2 e]
 | false=>rw[e]at this;simp at this;simp;omega
theorem swoH:SWO (ltOf cmpH) where
 irrefl x:=by
  rw[ltOf_cmpH]
  have:=Sp.hlt_irrefl x
  unfold Sp.hlt at this
  simpa using this
 trans x y z h1 h2:=by rw[ltOf_cmpH]at *; exact Sp.hlt_trans h1 h2
 ntrans x y z h1 h2:=by
  rw[ltOf_cmpH]at *
  cases h:Sp.l31Before x z with
  | false=>rfl
  | true =>
   rcases Sp.hlt_total x y with g|g|g
   ·exact absurd (show Sp.l31Before x y=true from g) (by simp[h1])
   ·rw[g]at h;rw[h]at h2;cases h2
   ·have g2:Sp.l31Before y z=true:=Sp.hlt_trans g h
    rw[g2]at h2;cases h2
def flatH (l:List BHold):List Value:=(l.map encH).flatten
theorem flatH_len:∀l:List BHold,(flatH l).length=l.length*2
 | []=>rfl
 | x :: r => by
  have:=flatH_len r
  simp only[flatH,List.map_cons,List.flatten_cons,List.length_append,List.length_cons]at this ⊢
  simp only[encH,List.length_cons,List.length_nil]
  omega
theorem flatH_get : ∀ (l : List BHold) (t : Nat), t < l.length * 2 → (flatH l)[t]? = (l[t / 2]?).bind (fun x => (encH x)[t % 2]?)
 | [],t,h=>by simp at h
 | x :: r, t, h => by
  have hl:(encH x).length=2:=rfl
  show(encH x++flatH r)[t]? = _
  by_cases ht:t<2
  ·rw[List.getElem?_append_left (by omega),show t / 2=0 by omega,show t % 2=t by omega]
   rfl
  ·rw[List.getElem?_append_right (by omega),hl,flatH_get r (t-2) (by simp at h;omega),show t / 2=(t-2) / 2+1 by omega,show t % 2=(t-2) % 2 by omega,List.getElem?_cons_succ]
theorem flatH_list (d:Array BHold):(flatK encH 2 d).toList=flatH d.toList:=by
 apply List.ext_getElem?
 intro t
 by_cases h:t<d.size*2
 ·have h1:=get_flatK encH 2 d t h
  have hd:t / 2<d.size:=by omega
  rw[flatH_get _ _ (by simpa using h)]
  have hf:t<(flatK encH 2 d).size:=by simpa using h
  have hm:t % 2<(encH d[t / 2]).length:=by show _<2;omega
  rw[getElem!_pos (flatK encH 2 d) t hf,getElem!_pos d (t / 2) hd,getElem!_pos (encH d[t / 2]) (t % 2) hm]at h1
  have e1:(flatK encH 2 d).toList[t]? = some (flatK encH 2 d)[t]:=by simp[hf]
  have e2:d.toList[t / 2]? = some d[t / 2]:=by simp[hd]
  rw[e1,e2,Option.bind_some,List.getElem?_eq_getElem hm,h1]
 ·rw[List.getElem?_eq_none (by simp;omega),List.getElem?_eq_none (by rw[flatH_len];simp;omega)]
def rawE:PH→BHold→List Value→Prop:=fun _ x cs=>cs=encH x
theorem chkR {G:PH}:∀{xs:List BHold} {c:List Value},Chk rawE 2 G c xs→c=flatH xs
 | [], c, ⟨css, h1, h2, _⟩ => by
  obtain rfl:css=[]:=List.eq_nil_of_length_eq_zero (by simpa using h2)
  exact h1
 | x :: r, c, ⟨css, h1, h2, h3⟩ => by
  cases css with
  | nil=>simp at h2
  | cons cs t =>
   obtain⟨cs',e1,e2,e3⟩:=h3 0 x rfl
   simp only[List.getElem?_cons_zero,Option.some.injEq]at e1
   subst e1
   have k1:=chkR (xs:=r) (c:=t.flatten) ⟨t,rfl,by simpa using h2,fun i y hy=>by simpa using h3 (i+1) y (by simpa using hy)⟩
   rw[h1,List.flatten_cons,k1,e3];rfl
theorem chkH_of {G:PH}:∀{xs:List BHold},(∀x,x ∈ xs→smallH x)→Chk holdE 2 G (flatH xs) xs
 | [],_=>Chk.nil
 | x :: r, h => by
  have:=(Chk.one (E:=holdE) (sz:=2) (G:=G) (x:=x) (cs:=encH x) ⟨rfl,h x (by simp)⟩ rfl).app (chkH_of (xs:=r) (fun y hy=>h y (by simp[hy])))
  exact this
theorem hasc_uniq : ∀ {l l' : List BHold}, l'.Perm l → l.Pairwise Sp.hlt → l'.Pairwise (fun a b => Sp.l31Before b a = false) → l' = l
 | [],l',p,_,_=>List.Perm.eq_nil p
 | x::r,[],p,_,_=>by simp at p
 | x :: r, y :: s, p, h1, h2 => by
  rw[List.pairwise_cons]at h1 h2
  have e:y=x:=by
   have hx:x ∈ y::s:=p.mem_iff.2 (List.mem_cons_self ..)
   have hy:y ∈ x::r:=p.mem_iff.1 (List.mem_cons_self ..)
   rcases List.mem_cons.1 hx with e|hx
   ·exact e.symm
   ·rcases List.mem_cons.1 hy with e|hy
    ·exact e
    ·have a1:=h1.1 y hy
     have a2:=h2.1 x hx
     unfold Sp.hlt at a1
     rw[a1]at a2;cases a2
  subst e
  rw[hasc_uniq (l:=r) (l':=s) (List.Perm.cons_inv p) h1.2 h2.2]
theorem sorted_asc {xs : List BHold} {d' : Array BHold} (hp : PermIn 0 xs.toArray.size xs.toArray d') (hs : SortedIn (ltOf cmpH) 0 xs.toArray.size d') : d'.toList.Perm xs ∧ d'.toList.Pairwise (fun a b => Sp.l31Before b a = false) := by
 obtain⟨h1,_,h3⟩:=hp
 rw[Array.extract_size]at h3
 have h3':(d'.extract 0 xs.toArray.size)=d':=by rw[←h1];exact Array.extract_size
 rw[h3']at h3
 refine⟨by simpa using h3,?_⟩
 rw[List.pairwise_iff_getElem]
 intro i j hi hj hij
 have hi':i<d'.size:=by simpa using hi
 have hj':j<d'.size:=by simpa using hj
 have h5:=hs i j (Nat.zero_le _) hij (by rw[←h1];exact hj')
 rw[ltOf_cmpH,getElem!_pos d' i hi',getElem!_pos d' j hj']at h5
 simpa using h5
section
variable {w0 w:World} {G0 G:PH} {S:List Nat} {B:List Res} {e:TypeId} {b n cap:Nat} {ys:List BHold}
theorem accH_holds (H:Hp w0 G0 S w G (acc e 2 (.slice (some ⟨b,0,none⟩) n cap) n (flatH ys)::B))(hn:ys.length=n):HoldsK encH 2 w b 0 ys.toArray∧b<w.heap.size:=by
 have h0:=(H.own (acc e 2 (.slice (some ⟨b,0,none⟩) n cap) n (flatH ys)) (by simp)).1
 obtain⟨h1,h2⟩:=h0
 rcases h2 with ⟨h2,_⟩|⟨b',cap',C,h2,h3,_,_,h6,h7⟩
 ·cases h2
 ·simp only[Value.slice.injEq,Option.some.injEq,Addr.mk.injEq]at h2
  obtain⟨⟨rfl,_⟩,_,rfl⟩:=h2
  refine⟨fun j hj=>?_,(Array.getElem?_eq_some_iff.1 h3).1⟩
  have hj':j<ys.length*2:=by simpa using hj
  have e1:(flatK encH 2 ys.toArray).toList[j]? = some (flatK encH 2 ys.toArray)[j]! := by rw[getElem!_pos _ j hj];simp[hj]
  rw[flatH_list,←h7,List.getElem?_take,if_pos (by simpa [hn] using hj')]at e1
  have h3':w.heap[b]? = some (.cells C e (0,0)):=h3
  refine⟨?_,?_⟩
  ·simp only[World.cell?,h3',Nat.zero_add,id_eq]
   simpa using e1
  ·simp[World.frozen?,h3']
theorem Hp.sortedH (H:Hp w0 G0 S w G (acc e 2 (.slice (some ⟨b,0,none⟩) n cap) n (flatH ys)::B))(hn:ys.length=n){d':Array BHold}(hd:d'.size=n){m:Nat}{os:Array Obj}:Hp w0 G0 S (sortWorldK encH 2 w b 0 m d' os) G (acc e 2 (.slice (some ⟨b,0,none⟩) n cap) n (flatH d'.toList)::B):=by
 have h0:=(H.own (acc e 2 (.slice (some ⟨b,0,none⟩) n cap) n (flatH ys)) (by simp)).1
 obtain⟨h1,h2⟩:=h0
 have key:∀c,c<w.heap.size→(sortWorldK encH 2 w b 0 m d' os).heap[c]? = (w.heap.modify b (onCells (putCells id 0 (flatK encH 2 d'))))[c]? := by
  intro c hc
  unfold sortWorldK
  rw[heap_grow_old _ _ (by rw[size_putRowK];exact hc)]
  rfl
 have hsz:w.heap.size≤(sortWorldK encH 2 w b 0 m d' os).heap.size:=by unfold sortWorldK;rw[size_grow,size_putRowK];exact Nat.le_add_right _ _
 have hfp:(acc e 2 (.slice (some ⟨b,0,none⟩) n cap) n (flatH d'.toList)).fp=[b]:=rfl
 have hfq:(acc e 2 (.slice (some ⟨b,0,none⟩) n cap) n (flatH ys)).fp=[b]:=rfl
 refine H.upd (k:=0) (r:=acc e 2 (.slice (some ⟨b,0,none⟩) n cap) n (flatH ys)) rfl (w':=sortWorldK encH 2 w b 0 m d' os) rfl rfl rfl hsz (fun c hc hcn=>?_) (acc e 2 (.slice (some ⟨b,0,none⟩) n cap) n (flatH d'.toList)) ?_ (fun c hc=> .inl (by rw[hfq];rw[hfp]at hc;exact hc)) (by rw[hfp];simp)
 ·rw[key c hc,Array.getElem?_modify]
  have:¬b=c:=fun e=>hcn (by rw[hfq,e];simp)
  simp[this]
 ·rcases h2 with ⟨h2,_⟩|⟨b',cap',C,h2,h3,h4,h5,h6,h7⟩
  ·cases h2
  ·simp only[Value.slice.injEq,Option.some.injEq,Addr.mk.injEq]at h2
   obtain⟨⟨rfl,_⟩,_,rfl⟩:=h2
   have hb:b<w.heap.size:=(Array.getElem?_eq_some_iff.1 h3).1
   refine⟨by rw[flatH_len];simp[hd],.inr ⟨b,cap,putCells id 0 (flatK encH 2 d') C,rfl,?_,h4,h5,by simpa [putCells] using h6,?_⟩⟩
   ·show(sortWorldK encH 2 w b 0 m d' os).heap[b]? = _
    rw[key b hb,Array.getElem?_modify]
    have h3':w.heap[b]? = some (.cells C e (0,0)):=h3
    simp[h3',onCells]
   ·apply List.ext_getElem?
    intro t
    rw[List.getElem?_take]
    by_cases ht:t<n*2
    ·have hC:t<C.size:=by have:=Nat.mul_le_mul_right 2 h4;omega
     have hF:t<(flatK encH 2 d').size:=by simpa [hd] using ht
     rw[if_pos ht,←flatH_list]
     have e1:(flatK encH 2 d').toList[t]? = some (flatK encH 2 d')[t]! := by rw[getElem!_pos _ t hF];simp[hF]
     rw[e1]
     simp only[putCells,Array.getElem?_toList,Array.getElem?_mapIdx,Array.getElem?_eq_getElem hC,Option.map_some,Nat.zero_le,true_and,Nat.zero_add,Nat.sub_zero,id_eq]
     rw[if_pos hF]
    ·rw[if_neg ht,List.getElem?_eq_none (by rw[flatH_len];simp[hd];omega)]
end
instance decHold:DecidableEq BHold:=fun a b=>decidable_of_iff (a.snap=b.snap∧a.tag=b.tag) (by cases a;cases b;simp)
def keyH (x:BHold):Value:= .agg (encH x).toArray
theorem keyH_inj (a b:BHold)(h:keyH a=keyH b):a=b:=by
 cases a;cases b
 simp[keyH,encH,str]at h
 simp[h]
def uH (x:BHold):BHold×Value:=(x,.agg #[])
def IsSet (es:Array MapEntry)(ck:Nat)(L:List BHold):Prop:=MapIs keyH es ck (L.map uH)
theorem IsSet.empty:IsSet #[] 0 []:=MapIs.empty (key:=keyH) 0
theorem uH_keys (L:List BHold):(L.map uH).map (·.1)=L:=by
 induction L with
 | nil=>rfl
 | cons a r ih=>simp only[List.map_cons,ih];rfl
theorem IsSet.nd {es:Array MapEntry}{ck:Nat}{L:List BHold}(h:IsSet es ck L):L.Nodup:=by
 have:=MapIs.nd h
 rwa [uH_keys]at this
theorem look_set {es : Array MapEntry} {ck : Nat} {L : List BHold} (h : IsSet es ck L) (a : BHold) : look (L.map uH) a = if a ∈ L then some (.agg #[]) else none := by
 have hm:=look_keys (xs:=L.map uH) (a:=a) (MapIs.nd h)
 rw[uH_keys]at hm
 cases e:look (L.map uH) a with
 | none =>
  rw[e]at hm
  rw[if_neg (fun hh=>by have:=hm.2 hh;simp at this)]
 | some v =>
  rw[e]at hm
  rw[if_pos (hm.1 rfl)]
  obtain⟨x,_,hx⟩:=List.mem_map.1 (look_mem' e)
  simp only[uH,Prod.mk.injEq]at hx
  rw[←hx.2]
theorem upd_set {es:Array MapEntry}{ck:Nat}{L:List BHold}(h:IsSet es ck L){a:BHold}(hn:a ∉ L):upd (L.map uH) a (.agg #[])=(L++[a]).map uH:=by
 have h0:fnd a (L.map uH) 0=none:=by
  have:=look_set h a
  rw[if_neg hn]at this
  unfold look at this
  cases e:fnd a (L.map uH) 0 with
  | none=>rfl
  | some p=>rw[e]at this;simp at this
 simp[upd,h0,uH]
section ops
variable {P:Program} {n:Nat} {ops:Array Oper} {Q:Post} {rest:List Oper} {L:Slots} {ds:List Deferred} {w w0:World} {G0:PH} {S:List Nat} {G:PH} {B:List Res} {ty:TypeId} {ps:String} {af:Array Edge}
variable {t k e:TypeId} {b:Nat} {es:Array MapEntry} {ck:Nat} {M:List BHold} {a:BHold}
theorem o_load_c {d:Nat}{t:TypeId}{x:Operand}{b o:Nat}{v:Value}(hA:∀w,(isAgg t).run P w= .ok false w)(hd:Nat.blt d n=true)(hx:od L x=some (.pointer (some ⟨b,o,none⟩)))(hc:w.cell? ⟨b,o,none⟩=some v)
  (next:R P n ops Q rest ((d,v)::L) ds w):R P n ops Q (⟨some d,.load t x,ty,ps,af,none⟩::rest) L ds w :=
 R_run hd (fun a ha=>by simp[execOp,Instr.loadAt,ha.eval hx,Instr.sureAddr,loadVar,hA,hc]) next
theorem o_hasH (K:KeyA P k keyH){d:Nat}{x y:Operand}(hb:w.heap[b]? = some (.map es ck))(hm:IsSet es ck M)(ht:P.underlying t=some (.map k e))(hz:∀w,(zeroValue e).run P w= .ok (.agg #[]) w)(hd:Nat.blt d n=true)(hx:od L x=some (.map (some b)))(hy:od L y=some (keyH a))
  (next:R P n ops Q rest ((d,.tuple #[.agg #[],.bool (decide (a ∈ M))])::L) ds w):R P n ops Q (⟨some d,.lookup t x y true,ty,ps,af,none⟩::rest) L ds w:=by
 refine o_lookA2 K hb hm ht hz hd hx hy ?_
 rw[look_set hm]
 by_cases h:a ∈ M
 ·simpa [h] using next
 ·simpa [h] using next
theorem o_putH (K:KeyA P k keyH)(k0:Nat)(H:Hp w0 G0 S w G B){x y z:Operand}(hk0:nth B k0=some (blk b (.map es ck)))(hm:IsSet es ck M)(ht:P.underlying t=some (.map k e))
  (hx:od L x=some (.map (some b))) (hy:od L y=some (keyH a)) (hz:od L z=some (.agg #[])) (hn:a ∉ M)
  (next:∀es' ck' w',Hp w0 G0 S w' G (setN B k0 (blk b (.map es' ck')))→IsSet es' ck' (M++[a])→R P n ops Q rest L ds w'):R P n ops Q (⟨none,.mapUpdate t x y z,ty,ps,af,none⟩::rest) L ds w :=
 o_updA K k0 H hk0 hm ht hx hy hz (fun es' ck' w' H' hm'=>next es' ck' w' H' (by rw[upd_set hm hn]at hm';exact hm'))
end ops
theorem Hp.grownR {w0 w:World}{G0 G:PH}{B:List Res}{r:Nat}(H:Hp w0 G0 [r] w G B):w0.grownBy w (some r) :=
 ⟨H.os,H.tape,H.output,H.size,fun k hk hn=>H.ext k hk (by simp only[List.mem_singleton];exact fun e=>hn (by rw[e]))⟩
theorem len_sub:∀{l M:List BHold},l.Nodup→(∀c,c ∈ l→c ∈ M)→l.length≤M.length
 | [],_,_,_=>Nat.zero_le _
 | x :: r, M, hn, hs => by
  rw[List.nodup_cons]at hn
  have hx:x ∈ M:=hs x (List.mem_cons_self ..)
  have:=len_sub (l:=r) (M:=M.erase x) hn.2 (fun c hc=>(List.mem_erase_of_ne (fun e=>hn.1 (by rw[←e];exact hc))).2 (hs c (List.mem_cons_of_mem _ hc)))
  rw[List.length_erase_of_mem hx]at this
  have:=List.length_pos_of_mem hx
  simp only[List.length_cons]
  omega
theorem keys_perm {pre M:List BHold}(hp:pre.Nodup)(hM:M.Nodup)(h1:∀c,c ∈ pre→c ∈ M)(h2:∀c,c ∈ M→c ∈ pre):pre.Perm M :=
 (List.perm_ext_iff_of_nodup hp hM).2 fun c=>⟨h1 c,h2 c⟩
end Fw
namespace Sp
open Fw Nd
def prevH (l : List BHold) (i : Nat) (h : BHold) : Bool := match l[i - 1]? with
 | some g=>l31Before g h
 | none=>false
theorem holdOk_at {l:List BHold}{i:Nat}{h:BHold}(hz:l[i]? = some h):holdOk l i=(l31Ok h&&(decide (i=0)||prevH l i h)):=by
 unfold holdOk prevH
 rw[hz]<;>(cases l[i-1]? <;> rfl)
theorem take_snoc {α:Type}{l:List α}{k:Nat}{x:α}(h:l[k]? = some x):l.take (k+1)=l.take k++[x]:=by
 rw[List.take_add_one,h];rfl
section
variable {l:List BHold} {h x:BHold} {k:Nat}
theorem putH_perm:(putH l h).Perm (l++[h]):=by
 unfold putH
 refine List.perm_middle.trans ?_
 rw[List.takeWhile_append_dropWhile]
 exact(List.perm_append_singleton h l).symm
theorem mem_tw {p:BHold→Bool}:∀{l:List BHold} {a:BHold},a ∈ l.takeWhile p→p a=true
 | [],_,h=>by simp at h
 | b :: r, a, h => by
  by_cases e:p b=true
  ·simp only[List.takeWhile_cons,e,if_true,List.mem_cons]at h
   rcases h with rfl|h
   ·exact e
   ·exact mem_tw h
  ·simp[e]at h
theorem dw_head {p:BHold→Bool}:∀{l:List BHold} {a:BHold} {r:List BHold},l.dropWhile p=a::r→p a=false
 | [],_,_,h=>by simp at h
 | b :: t, a, r, h => by
  by_cases e:p b=true
  ·simp only[List.dropWhile_cons,e,if_true]at h
   exact dw_head h
  ·simp only[List.dropWhile_cons,e]at h
   simp at h
   rw[←h.1];simpa using e
theorem putH_asc (hl:l.Pairwise hlt)(hn:h ∉ l):(putH l h).Pairwise hlt:=by
 have hd:(l.takeWhile (fun g=> !l31Before h g)++l.dropWhile (fun g=> !l31Before h g)).Pairwise hlt:=by rw[List.takeWhile_append_dropWhile];exact hl
 rw[List.pairwise_append]at hd
 have h1 : ∀ a, a ∈ l.takeWhile (fun g => !l31Before h g) → hlt a h := fun a ha => by
  have h2:=mem_tw ha
  rcases hlt_total a h with h3|h3|h3
  ·exact h3
  ·exact absurd (h3▸(List.takeWhile_sublist _).subset ha) hn
  ·unfold hlt at h3;rw[h3]at h2;cases h2
 have h2 : ∀ a, a ∈ l.dropWhile (fun g => !l31Before h g) → hlt h a := by
  intro a ha
  cases e:l.dropWhile (fun g=> !l31Before h g) with
  | nil=>rw[e]at ha;simp at ha
  | cons b r =>
   have hb:=dw_head e
   have hb:hlt h b:=by unfold hlt;simpa using hb
   rw[e]at ha
   rcases List.mem_cons.1 ha with rfl|ha
   ·exact hb
   ·have:=hd.2.1
    rw[e,List.pairwise_cons]at this
    exact hlt_trans hb (this.1 a ha)
 unfold putH
 rw[List.pairwise_append,List.pairwise_cons]
 refine⟨hd.1,⟨h2,hd.2.1⟩,?_⟩
 intro a ha b hb
 rcases List.mem_cons.1 hb with rfl|hb
 ·exact h1 a ha
 ·exact hd.2.2 a ha b hb
theorem put_sorted {s : List BHold} (hv : HoldsValid l = true) (hn : h ∉ l) (hp : s.Perm (l ++ [h])) (hs : s.Pairwise (fun a b => l31Before b a = false)) : s = putH l h :=
 hasc_uniq (hp.trans putH_perm.symm) (putH_asc (hvalid_iff.1 hv).asc hn) hs
theorem tags_sorted {s : List BHold} (hv : HoldsValid l = true) (hp : s.Perm l) (hs : s.Pairwise (fun a b => l31Before b a = false)) : s = l :=
 hasc_uniq hp (hvalid_iff.1 hv).asc hs
theorem tags_yes {s : Bs} (hz : l[k]? = some x) (e : x.snap = s) : ((l.take (k + 1)).filter (fun h => decide (h.snap = s))).map (·.tag) = ((l.take k).filter (fun h => decide (h.snap = s))).map (·.tag) ++ [x.tag] := by
 rw[take_snoc hz,List.filter_append,List.map_append];simp[e]
theorem tags_not {s : Bs} (hz : l[k]? = some x) (e : x.snap ≠ s) : ((l.take (k + 1)).filter (fun h => decide (h.snap = s))).map (·.tag) = ((l.take k).filter (fun h => decide (h.snap = s))).map (·.tag) := by
 rw[take_snoc hz,List.filter_append,List.map_append];simp[e]
end
theorem ok_small {h:BHold}(ho:l31Ok h=true):smallH h:=by
 unfold l31Ok at ho
 rw[Bool.and_eq_true]at ho
 have h1:=sum_le (l:=[h.snap]) (by simp[ho.1])
 have h2:=sum_le (l:=[h.tag]) (by simp[ho.2])
 simp at h1 h2
 exact⟨by omega,by omega⟩
theorem list_small {l:List BHold}(hv:HoldsValid l=true):∀x,x ∈ l→smallH x:=fun x hx=>ok_small ((hvalid_iff.1 hv).ok x hx)
theorem free_no {d:BDisk}{l:List BHold}{s:Bs}(h:HoldsValid l=false∨HoldTags l s≠[]):DropFree d l s=none:=by
 unfold DropFree
 rcases h with h|h
 ·rw[h];rfl
 ·rw[decide_eq_false h];simp
theorem free_yes {d:BDisk}{l:List BHold}{s:Bs}(h1:HoldsValid l=true)(h2:HoldTags l s=[]):DropFree d l s=SnapDrop d s:=by
 unfold DropFree
 rw[h1,decide_eq_true h2];rfl
theorem tags_eq {l : List BHold} {s : Bs} (h : HoldsValid l = true) : HoldTags l s = (l.filter (fun h => decide (h.snap = s))).map (·.tag) := by
 unfold HoldTags;rw[if_pos h]
theorem tags_no {l:List BHold}{s:Bs}(h:HoldsValid l=false):HoldTags l s=[]:=by
 unfold HoldTags;rw[if_neg (by simp[h])]
theorem hv_nd {l:List BHold}{k:Nat}{x:BHold}(hv:HoldsValid l=true)(hz:l[k]? = some x):x ∉ l.take k:=by
 intro hm
 obtain⟨j,hj⟩:=List.getElem?_of_mem hm
 rw[List.getElem?_take]at hj
 split at hj
 ·rename_i hlt
  have h1:=(List.pairwise_iff_getElem.1 (hvalid_iff.1 hv).asc) j k (List.getElem?_eq_some_iff.1 hj).1 (List.getElem?_eq_some_iff.1 hz).1 hlt
  rw[(List.getElem?_eq_some_iff.1 hj).2,(List.getElem?_eq_some_iff.1 hz).2]at h1
  exact hlt_irrefl _ h1
 ·cases hj
end Sp
namespace Fw
open Go Go.RowKit Go.ChangeShapes Go.WideShapes
variable {H:Type} {enc:TypeId×Value→H} {P:Program} {W:World} {bk:DataW H→Nat} {bka:List (DataW H)→Nat} {ts:TypeId}
theorem two_ofH {cs:List Value}{a b:Value}(h:cs.length=2)(h0:cs[0]? = some a)(h1:cs[1]? = some b):cs=[a,b]:=by
 match cs,h with
 | [x,y],_=>simp at h0 h1;simp[h0,h1]
theorem elem_hold (hb:Bulk bk bka){t:TypeId}{f0 f1:Field}(ht:P.underlying t=some (.struct #[f0,f1]))(hk:P.cellsOf t=2)(hall:∀(i:Nat) (f:Field),#[f0,f1][i]? = some f→f.offset=i∧P.cellsOf f.type=1)
  (e0:f0.type=ts) (e1:f1.type=ts) (hs:P.underlying ts=some .string):Elem enc P W bk t 2 holdE:=by
 intro n cs x h hx
 obtain⟨hl,hf⟩:=struct_fields hb ht hk hall n cs x h hx
 obtain⟨v0,y0,m0,a0,b0,c0⟩:=hf 0 f0 rfl (by omega)
 obtain⟨v1,y1,m1,a1,b1,c1⟩:=hf 1 f1 rfl (by omega)
 rw[e0]at b0;rw[e1]at b1
 obtain⟨i0,_,g0,g0'⟩:=elem_str hb hs m0 _ _ b0 c0
 obtain⟨i1,_,g1,g1'⟩:=elem_str hb hs m1 _ _ b1 c1
 simp only[List.cons.injEq,and_true]at g0 g1
 subst g0 g1
 exact⟨⟨i0,i1⟩,hl,two_ofH hl a0 a1,g0',g1'⟩
def wHold (x:BHold):Nat:=x.snap.length+x.tag.length
def wHolds (a:List BHold):Nat:=a.length+cnt wHold a
end Fw
namespace Go.Proofs.Tst
open Go Fw
instance:CF Tryz.prog 10:=⟨Tryz.call10⟩
instance:CF Tryz.prog 100:=⟨Tryz.call100⟩
instance:CF Tryz.prog 101:=⟨Tryz.call101⟩
instance:CF Tryz.prog 102:=⟨Tryz.call102⟩
instance:CF Tryz.prog 103:=⟨Tryz.call103⟩
instance:CF Tryz.prog 104:=⟨Tryz.call104⟩
instance:CF Tryz.prog 105:=⟨Tryz.call105⟩
instance:CF Tryz.prog 106:=⟨Tryz.call106⟩
instance:CF Tryz.prog 107:=⟨Tryz.call107⟩
instance:CF Tryz.prog 108:=⟨Tryz.call108⟩
instance:CF Tryz.prog 11:=⟨Tryz.call11⟩
instance:CF Tryz.prog 114:=⟨Tryz.call114⟩
instance:CF Tryz.prog 116:=⟨Tryz.call116⟩
instance:CF Tryz.prog 117:=⟨Tryz.call117⟩
instance:CF Tryz.prog 118:=⟨Tryz.call118⟩
instance:CF Tryz.prog 119:=⟨Tryz.call119⟩
instance:CF Tryz.prog 12:=⟨Tryz.call12⟩
instance:CF Tryz.prog 120:=⟨Tryz.call120⟩
instance:CF Tryz.prog 123:=⟨Tryz.call123⟩
instance:CF Tryz.prog 127:=⟨Tryz.call127⟩
instance:CF Tryz.prog 128:=⟨Tryz.call128⟩
instance:CF Tryz.prog 129:=⟨Tryz.call129⟩
instance:CF Tryz.prog 13:=⟨Tryz.call13⟩
instance:CF Tryz.prog 130:=⟨Tryz.call130⟩
instance:CF Tryz.prog 131:=⟨Tryz.call131⟩
instance:CF Tryz.prog 132:=⟨Tryz.call132⟩
instance:CF Tryz.prog 133:=⟨Tryz.call133⟩
instance:CF Tryz.prog 134:=⟨Tryz.call134⟩
instance:CF Tryz.prog 135:=⟨Tryz.call135⟩
instance:CF Tryz.prog 136:=⟨Tryz.call136⟩
instance:CF Tryz.prog 14:=⟨Tryz.call14⟩
instance:CF Tryz.prog 141:=⟨Tryz.call141⟩
instance:CF Tryz.prog 142:=⟨Tryz.call142⟩
instance:CF Tryz.prog 143:=⟨Tryz.call143⟩
instance:CF Tryz.prog 144:=⟨Tryz.call144⟩
instance:CF Tryz.prog 145:=⟨Tryz.call145⟩
instance:CF Tryz.prog 146:=⟨Tryz.call146⟩
instance:CF Tryz.prog 147:=⟨Tryz.call147⟩
instance:CF Tryz.prog 148:=⟨Tryz.call148⟩
instance:CF Tryz.prog 149:=⟨Tryz.call149⟩
instance:CF Tryz.prog 15:=⟨Tryz.call15⟩
instance:CF Tryz.prog 150:=⟨Tryz.call150⟩
instance:CF Tryz.prog 151:=⟨Tryz.call151⟩
instance:CF Tryz.prog 16:=⟨Tryz.call16⟩
instance:CF Tryz.prog 160:=⟨Tryz.call160⟩
instance:CF Tryz.prog 164:=⟨Tryz.call164⟩
instance:CF Tryz.prog 165:=⟨Tryz.call165⟩
instance:CF Tryz.prog 166:=⟨Tryz.call166⟩
instance:CF Tryz.prog 167:=⟨Tryz.call167⟩
instance:CF Tryz.prog 168:=⟨Tryz.call168⟩
instance:CF Tryz.prog 169:=⟨Tryz.call169⟩
instance:CF Tryz.prog 170:=⟨Tryz.call170⟩
instance:CF Tryz.prog 171:=⟨Tryz.call171⟩
instance:CF Tryz.prog 172:=⟨Tryz.call172⟩
instance:CF Tryz.prog 173:=⟨Tryz.call173⟩
instance:CF Tryz.prog 174:=⟨Tryz.call174⟩
instance:CF Tryz.prog 175:=⟨Tryz.call175⟩
instance:CF Tryz.prog 176:=⟨Tryz.call176⟩
instance:CF Tryz.prog 177:=⟨Tryz.call177⟩
instance:CF Tryz.prog 178:=⟨Tryz.call178⟩
instance:CF Tryz.prog 19:=⟨Tryz.call19⟩
instance:CF Tryz.prog 199:=⟨Tryz.call199⟩
instance:CF Tryz.prog 20:=⟨Tryz.call20⟩
instance:CF Tryz.prog 200:=⟨Tryz.call200⟩
instance:CF Tryz.prog 201:=⟨Tryz.call201⟩
instance:CF Tryz.prog 202:=⟨Tryz.call202⟩
instance:CF Tryz.prog 203:=⟨Tryz.call203⟩
instance:CF Tryz.prog 204:=⟨Tryz.call204⟩
instance:CF Tryz.prog 205:=⟨Tryz.call205⟩
instance:CF Tryz.prog 206:=⟨Tryz.call206⟩
instance:CF Tryz.prog 207:=⟨Tryz.call207⟩
instance:CF Tryz.prog 208:=⟨Tryz.call208⟩
instance:CF Tryz.prog 209:=⟨Tryz.call209⟩
instance:CF Tryz.prog 210:=⟨Tryz.call210⟩
instance:CF Tryz.prog 22:=⟨Tryz.call22⟩
instance:CF Tryz.prog 220:=⟨Tryz.call220⟩
instance:CF Tryz.prog 221:=⟨Tryz.call221⟩
instance:CF Tryz.prog 222:=⟨Tryz.call222⟩
instance:CF Tryz.prog 223:=⟨Tryz.call223⟩
instance:CF Tryz.prog 224:=⟨Tryz.call224⟩
instance:CF Tryz.prog 23:=⟨Tryz.call23⟩
instance:CF Tryz.prog 236:=⟨Tryz.call236⟩
instance:CF Tryz.prog 24:=⟨Tryz.call24⟩
instance:CF Tryz.prog 242:=⟨Tryz.call242⟩
instance:CF Tryz.prog 245:=⟨Tryz.call245⟩
instance:CF Tryz.prog 246:=⟨Tryz.call246⟩
instance:CF Tryz.prog 25:=⟨Tryz.call25⟩
instance:CF Tryz.prog 26:=⟨Tryz.call26⟩
instance:CF Tryz.prog 27:=⟨Tryz.call27⟩
instance:CF Tryz.prog 28:=⟨Tryz.call28⟩
instance:CF Tryz.prog 29:=⟨Tryz.call29⟩
instance:CF Tryz.prog 30:=⟨Tryz.call30⟩
instance:CF Tryz.prog 31:=⟨Tryz.call31⟩
instance:CF Tryz.prog 32:=⟨Tryz.call32⟩
instance:CF Tryz.prog 33:=⟨Tryz.call33⟩
instance:CF Tryz.prog 34:=⟨Tryz.call34⟩
instance:CF Tryz.prog 35:=⟨Tryz.call35⟩
instance:CF Tryz.prog 36:=⟨Tryz.call36⟩
instance:CF Tryz.prog 37:=⟨Tryz.call37⟩
instance:CF Tryz.prog 38:=⟨Tryz.call38⟩
instance:CF Tryz.prog 39:=⟨Tryz.call39⟩
instance:CF Tryz.prog 40:=⟨Tryz.call40⟩
instance:CF Tryz.prog 41:=⟨Tryz.call41⟩
instance:CF Tryz.prog 42:=⟨Tryz.call42⟩
instance:CF Tryz.prog 43:=⟨Tryz.call43⟩
instance:CF Tryz.prog 44:=⟨Tryz.call44⟩
instance:CF Tryz.prog 52:=⟨Tryz.call52⟩
instance:CF Tryz.prog 53:=⟨Tryz.call53⟩
instance:CF Tryz.prog 54:=⟨Tryz.call54⟩
instance:CF Tryz.prog 55:=⟨Tryz.call55⟩
instance:CF Tryz.prog 56:=⟨Tryz.call56⟩
instance:CF Tryz.prog 57:=⟨Tryz.call57⟩
instance:CF Tryz.prog 58:=⟨Tryz.call58⟩
instance:CF Tryz.prog 59:=⟨Tryz.call59⟩
instance:CF Tryz.prog 6:=⟨Tryz.call6⟩
instance:CF Tryz.prog 60:=⟨Tryz.call60⟩
instance:CF Tryz.prog 61:=⟨Tryz.call61⟩
instance:CF Tryz.prog 62:=⟨Tryz.call62⟩
instance:CF Tryz.prog 63:=⟨Tryz.call63⟩
instance:CF Tryz.prog 64:=⟨Tryz.call64⟩
instance:CF Tryz.prog 65:=⟨Tryz.call65⟩
instance:CF Tryz.prog 66:=⟨Tryz.call66⟩
instance:CF Tryz.prog 67:=⟨Tryz.call67⟩
instance:CF Tryz.prog 68:=⟨Tryz.call68⟩
instance:CF Tryz.prog 69:=⟨Tryz.call69⟩
instance:CF Tryz.prog 7:=⟨Tryz.call7⟩
instance:CF Tryz.prog 70:=⟨Tryz.call70⟩
instance:CF Tryz.prog 71:=⟨Tryz.call71⟩
instance:CF Tryz.prog 72:=⟨Tryz.call72⟩
instance:CF Tryz.prog 73:=⟨Tryz.call73⟩
instance:CF Tryz.prog 74:=⟨Tryz.call74⟩
instance:CF Tryz.prog 75:=⟨Tryz.call75⟩
instance:CF Tryz.prog 76:=⟨Tryz.call76⟩
instance:CF Tryz.prog 8:=⟨Tryz.call8⟩
instance:CF Tryz.prog 85:=⟨Tryz.call85⟩
instance:CF Tryz.prog 86:=⟨Tryz.call86⟩
instance:CF Tryz.prog 87:=⟨Tryz.call87⟩
instance:CF Tryz.prog 88:=⟨Tryz.call88⟩
instance:CF Tryz.prog 89:=⟨Tryz.call89⟩
instance:CF Tryz.prog 9:=⟨Tryz.call9⟩
instance:CF Tryz.prog 90:=⟨Tryz.call90⟩
instance:CF Tryz.prog 94:=⟨Tryz.call94⟩
instance:CF Tryz.prog 95:=⟨Tryz.call95⟩
instance:CF Tryz.prog 96:=⟨Tryz.call96⟩
instance:CF Tryz.prog 97:=⟨Tryz.call97⟩
instance:CF Tryz.prog 98:=⟨Tryz.call98⟩
instance:CF Tryz.prog 99:=⟨Tryz.call99⟩
instance:FA Tryz.prog 100 0 0:=⟨_,_,_,Tryz.runUnderlying100,rfl,Tryz.sizeOf9,rfl⟩
instance:FA Tryz.prog 100 1 1:=⟨_,_,_,Tryz.runUnderlying100,rfl,Tryz.sizeOf23,rfl⟩
instance:FA Tryz.prog 106 0 0:=⟨_,_,_,Tryz.runUnderlying106,rfl,Tryz.sizeOf9,rfl⟩
instance:FA Tryz.prog 106 1 1:=⟨_,_,_,Tryz.runUnderlying106,rfl,Tryz.sizeOf31,rfl⟩
instance:FA Tryz.prog 107 0 0:=⟨_,_,_,Tryz.runUnderlying107,rfl,Tryz.sizeOf3,rfl⟩
instance:FA Tryz.prog 107 1 1:=⟨_,_,_,Tryz.runUnderlying107,rfl,Tryz.sizeOf92,rfl⟩
instance:FA Tryz.prog 107 2 2:=⟨_,_,_,Tryz.runUnderlying107,rfl,Tryz.sizeOf3,rfl⟩
instance:FA Tryz.prog 109 0 0:=⟨_,_,_,Tryz.runUnderlying109,rfl,Tryz.sizeOf9,rfl⟩
instance:FA Tryz.prog 109 1 1:=⟨_,_,_,Tryz.runUnderlying109,rfl,Tryz.sizeOf4,rfl⟩
instance:FA Tryz.prog 109 2 2:=⟨_,_,_,Tryz.runUnderlying109,rfl,Tryz.sizeOf92,rfl⟩
instance:FA Tryz.prog 119 0 0:=⟨_,_,_,Tryz.runUnderlying119,rfl,Tryz.sizeOf30,rfl⟩
instance:FA Tryz.prog 119 1 1:=⟨_,_,_,Tryz.runUnderlying119,rfl,Tryz.sizeOf31,rfl⟩
instance:FA Tryz.prog 138 0 0:=⟨_,_,_,Tryz.runUnderlying138,rfl,Tryz.sizeOf135,rfl⟩
instance:FA Tryz.prog 138 1 1:=⟨_,_,_,Tryz.runUnderlying138,rfl,Tryz.sizeOf136,rfl⟩
instance:FA Tryz.prog 141 0 0:=⟨_,_,_,Tryz.runUnderlying141,rfl,Tryz.sizeOf133,rfl⟩
instance:FA Tryz.prog 141 1 2:=⟨_,_,_,Tryz.runUnderlying141,rfl,Tryz.sizeOf138,rfl⟩
instance:FA Tryz.prog 141 2 4:=⟨_,_,_,Tryz.runUnderlying141,rfl,Tryz.sizeOf139,rfl⟩
instance:FA Tryz.prog 145 0 0:=⟨_,_,_,Tryz.runUnderlying145,rfl,Tryz.sizeOf9,rfl⟩
instance:FA Tryz.prog 145 1 1:=⟨_,_,_,Tryz.runUnderlying145,rfl,Tryz.sizeOf136,rfl⟩
instance:FA Tryz.prog 192 0 0:=⟨_,_,_,Tryz.runUnderlying192,rfl,Tryz.sizeOf9,rfl⟩
instance:FA Tryz.prog 192 1 1:=⟨_,_,_,Tryz.runUnderlying192,rfl,Tryz.sizeOf4,rfl⟩
instance:FA Tryz.prog 192 2 2:=⟨_,_,_,Tryz.runUnderlying192,rfl,Tryz.sizeOf92,rfl⟩
instance:FA Tryz.prog 192 3 3:=⟨_,_,_,Tryz.runUnderlying192,rfl,Tryz.sizeOf168,rfl⟩
instance:FA Tryz.prog 26 0 0:=⟨_,_,_,Tryz.runUnderlying26,rfl,Tryz.sizeOf22,rfl⟩
instance:FA Tryz.prog 26 1 1:=⟨_,_,_,Tryz.runUnderlying26,rfl,Tryz.sizeOf23,rfl⟩
instance:FA Tryz.prog 26 2 2:=⟨_,_,_,Tryz.runUnderlying26,rfl,Tryz.sizeOf24,rfl⟩
instance:FA Tryz.prog 34 0 0:=⟨_,_,_,Tryz.runUnderlying34,rfl,Tryz.sizeOf30,rfl⟩
instance:FA Tryz.prog 34 1 1:=⟨_,_,_,Tryz.runUnderlying34,rfl,Tryz.sizeOf31,rfl⟩
instance:FA Tryz.prog 34 2 2:=⟨_,_,_,Tryz.runUnderlying34,rfl,Tryz.sizeOf32,rfl⟩
instance:FA Tryz.prog 55 0 0:=⟨_,_,_,Tryz.runUnderlying55,rfl,Tryz.sizeOf9,rfl⟩
instance:FA Tryz.prog 55 1 1:=⟨_,_,_,Tryz.runUnderlying55,rfl,Tryz.sizeOf9,rfl⟩
instance:FA Tryz.prog 60 0 0:=⟨_,_,_,Tryz.runUnderlying60,rfl,Tryz.sizeOf9,rfl⟩
instance:FA Tryz.prog 60 1 1:=⟨_,_,_,Tryz.runUnderlying60,rfl,Tryz.sizeOf9,rfl⟩
instance:FA Tryz.prog 94 0 0:=⟨_,_,_,Tryz.runUnderlying94,rfl,Tryz.sizeOf3,rfl⟩
instance:FA Tryz.prog 94 1 1:=⟨_,_,_,Tryz.runUnderlying94,rfl,Tryz.sizeOf92,rfl⟩
instance:FA Tryz.prog 94 2 2:=⟨_,_,_,Tryz.runUnderlying94,rfl,Tryz.sizeOf3,rfl⟩
instance:FA Tryz.prog 97 0 0:=⟨_,_,_,Tryz.runUnderlying97,rfl,Tryz.sizeOf9,rfl⟩
instance:FA Tryz.prog 97 1 1:=⟨_,_,_,Tryz.runUnderlying97,rfl,Tryz.sizeOf4,rfl⟩
instance:FA Tryz.prog 97 2 2:=⟨_,_,_,Tryz.runUnderlying97,rfl,Tryz.sizeOf92,rfl⟩
instance:AG Tryz.prog 100 true:=⟨Tryz.isAgg100⟩
instance:AG Tryz.prog 106 true:=⟨Tryz.isAgg106⟩
instance:AG Tryz.prog 107 true:=⟨Tryz.isAgg107⟩
instance:AG Tryz.prog 109 true:=⟨Tryz.isAgg109⟩
instance:AG Tryz.prog 119 true:=⟨Tryz.isAgg119⟩
instance:AG Tryz.prog 135 false:=⟨Tryz.isAgg135⟩
instance:AG Tryz.prog 136 false:=⟨Tryz.isAgg136⟩
instance:AG Tryz.prog 138 true:=⟨Tryz.isAgg138⟩
instance:AG Tryz.prog 139 false:=⟨Tryz.isAgg139⟩
instance:AG Tryz.prog 145 true:=⟨Tryz.isAgg145⟩
instance:AG Tryz.prog 168 false:=⟨Tryz.isAgg168⟩
instance:AG Tryz.prog 22 false:=⟨Tryz.isAgg22⟩
instance:AG Tryz.prog 23 false:=⟨Tryz.isAgg23⟩
instance:AG Tryz.prog 24 false:=⟨Tryz.isAgg24⟩
instance:AG Tryz.prog 26 true:=⟨Tryz.isAgg26⟩
instance:AG Tryz.prog 3 false:=⟨Tryz.isAgg3⟩
instance:AG Tryz.prog 30 false:=⟨Tryz.isAgg30⟩
instance:AG Tryz.prog 31 false:=⟨Tryz.isAgg31⟩
instance:AG Tryz.prog 32 false:=⟨Tryz.isAgg32⟩
instance:AG Tryz.prog 34 true:=⟨Tryz.isAgg34⟩
instance:AG Tryz.prog 4 false:=⟨Tryz.isAgg4⟩
instance:AG Tryz.prog 55 true:=⟨Tryz.isAgg55⟩
instance:AG Tryz.prog 60 true:=⟨Tryz.isAgg60⟩
instance:AG Tryz.prog 9 false:=⟨Tryz.isAgg9⟩
instance:AG Tryz.prog 92 false:=⟨Tryz.isAgg92⟩
instance:AG Tryz.prog 94 true:=⟨Tryz.isAgg94⟩
instance:AG Tryz.prog 97 true:=⟨Tryz.isAgg97⟩
instance:SZ Tryz.prog 100 2:=⟨Tryz.sizeOf100⟩
instance:SZ Tryz.prog 106 2:=⟨Tryz.sizeOf106⟩
instance:SZ Tryz.prog 107 3:=⟨Tryz.sizeOf107⟩
instance:SZ Tryz.prog 109 3:=⟨Tryz.sizeOf109⟩
instance:SZ Tryz.prog 119 2:=⟨Tryz.sizeOf119⟩
instance:SZ Tryz.prog 127 0:=⟨Tryz.sizeOf127⟩
instance:SZ Tryz.prog 133 2:=⟨Tryz.sizeOf133⟩
instance:SZ Tryz.prog 135 1:=⟨Tryz.sizeOf135⟩
instance:SZ Tryz.prog 136 1:=⟨Tryz.sizeOf136⟩
instance:SZ Tryz.prog 138 2:=⟨Tryz.sizeOf138⟩
instance:SZ Tryz.prog 139 1:=⟨Tryz.sizeOf139⟩
instance:SZ Tryz.prog 145 2:=⟨Tryz.sizeOf145⟩
instance:SZ Tryz.prog 168 1:=⟨Tryz.sizeOf168⟩
instance:SZ Tryz.prog 22 1:=⟨Tryz.sizeOf22⟩
instance:SZ Tryz.prog 23 1:=⟨Tryz.sizeOf23⟩
instance:SZ Tryz.prog 24 1:=⟨Tryz.sizeOf24⟩
instance:SZ Tryz.prog 26 3:=⟨Tryz.sizeOf26⟩
instance:SZ Tryz.prog 3 1:=⟨Tryz.sizeOf3⟩
instance:SZ Tryz.prog 30 1:=⟨Tryz.sizeOf30⟩
instance:SZ Tryz.prog 31 1:=⟨Tryz.sizeOf31⟩
instance:SZ Tryz.prog 32 1:=⟨Tryz.sizeOf32⟩
instance:SZ Tryz.prog 34 3:=⟨Tryz.sizeOf34⟩
instance:SZ Tryz.prog 4 1:=⟨Tryz.sizeOf4⟩
instance:SZ Tryz.prog 5 1:=⟨Tryz.sizeOf5⟩
instance:SZ Tryz.prog 55 2:=⟨Tryz.sizeOf55⟩
instance:SZ Tryz.prog 60 2:=⟨Tryz.sizeOf60⟩
instance:SZ Tryz.prog 9 1:=⟨Tryz.sizeOf9⟩
instance:SZ Tryz.prog 92 1:=⟨Tryz.sizeOf92⟩
instance:SZ Tryz.prog 94 3:=⟨Tryz.sizeOf94⟩
instance:SZ Tryz.prog 97 3:=⟨Tryz.sizeOf97⟩
instance:UL Tryz.prog 139 (.slice 145):=⟨Tryz.underlying139⟩
instance:UL Tryz.prog 168 (.slice 136):=⟨Tryz.underlying168⟩
instance:UL Tryz.prog 22 (.slice 94):=⟨Tryz.underlying22⟩
instance:UL Tryz.prog 23 (.slice 97):=⟨Tryz.underlying23⟩
instance:UL Tryz.prog 24 (.slice 100):=⟨Tryz.underlying24⟩
instance:UL Tryz.prog 243 (.slice 92):=⟨Tryz.underlying243⟩
instance:UL Tryz.prog 247 .string:=⟨Tryz.underlying247⟩
instance:UL Tryz.prog 27 (.slice 60):=⟨Tryz.underlying27⟩
instance:UL Tryz.prog 30 (.slice 107):=⟨Tryz.underlying30⟩
instance:UL Tryz.prog 31 (.slice 109):=⟨Tryz.underlying31⟩
instance:UL Tryz.prog 32 (.slice 106):=⟨Tryz.underlying32⟩
instance:UL Tryz.prog 38 (.slice 55):=⟨Tryz.underlying38⟩
instance:UL Tryz.prog 45 (.slice 5):=⟨Tryz.underlying45⟩
instance:UL Tryz.prog 49 (.slice 9):=⟨Tryz.underlying49⟩
instance:UL Tryz.prog 9 .string:=⟨Tryz.underlying9⟩
instance:UL Tryz.prog 92 (.slice 3):=⟨Tryz.underlying92⟩
instance:ZV Tryz.prog 106 [str [],.slice none 0 0]:=⟨_,Tryz.zeroValue106,rfl⟩
instance:ZV Tryz.prog 107 [.int .i64 0,.slice none 0 0,.int .i64 0]:=⟨_,Tryz.zeroValue107,rfl⟩
instance:ZV Tryz.prog 109 [str [],.bool false,.slice none 0 0]:=⟨_,Tryz.zeroValue109,rfl⟩
instance:ZV Tryz.prog 119 [.slice none 0 0,.slice none 0 0]:=⟨_,Tryz.zeroValue119,rfl⟩
instance:ZV Tryz.prog 127 []:=⟨_,Tryz.zeroValue127,rfl⟩
instance:ZV Tryz.prog 136 [.pointer none]:=⟨_,Tryz.zeroValue136,rfl⟩
instance:ZV Tryz.prog 138 [.map none,.pointer none]:=⟨_,Tryz.zeroValue138,rfl⟩
instance:ZV Tryz.prog 145 [str [],.pointer none]:=⟨_,Tryz.zeroValue145,rfl⟩
instance:ZV Tryz.prog 3 [.int .i64 0]:=⟨_,Tryz.zeroValue3,rfl⟩
instance:ZV Tryz.prog 34 [.slice none 0 0,.slice none 0 0,.slice none 0 0]:=⟨_,Tryz.zeroValue34,rfl⟩
instance:ZV Tryz.prog 5 [.int .u8 0]:=⟨_,Tryz.zeroValue5,rfl⟩
instance:ZV Tryz.prog 55 [str [],str []]:=⟨_,Tryz.zeroValue55,rfl⟩
instance:ZV Tryz.prog 9 [str []]:=⟨_,Tryz.zeroValue9,rfl⟩
instance:ZV Tryz.prog 92 [.slice none 0 0]:=⟨_,Tryz.zeroValue92,rfl⟩
end Go.Proofs.Tst
namespace Go.Proofs.Tst
open Go Fw Tryz
theorem w_szIntS_c (w0:World)(G0:PH)(hG:PSub G0 w0)(va:Value)(a:List (Int))(ha:RdI G0 va a)(left:Int)(hl: -1≤left∧left≤1099511627776) :
  Calls Tryz.prog 97 #[va,.int .i64 left] w0 (RetV w0 (fun v=>∃r:Int,v= .int .i64 r∧(r= -1∨(0≤r∧r+(List.length a:Int)≤left)))):=by
 obtain⟨aa,ka,rfl⟩:=ha.shape
 have hlima:a.length≤1099511627776:=ha.lim
 have H:=Hp.init hG
 refine calls_of_W (l:=[.slice aa a.length ka,.int .i64 left]) func97 Z ntmps97 Z (q2 (aG Z (q1 (pe 2 Z (lN Z (o_sub Z Z Z oO (aG Z (q3 (W_seq (q2 (pe 2 Z (q3 ?_))))))))))))
 refine W_cond Z ?_ ?_
 ·intro hc2
  try simp only[nrm]at hc2
  refine q2 (aG Z (q3 (W_ret (N_K_ret (rt1 results97 Z ?_)))))
  exact H.retV ⟨_,rfl,by first|omega|(simp only[wHeld,wItem,wSnap,wHelds,wItems,wSnaps,wDisk]at *; omega)⟩
 intro hc2'
 try simp only[nrm]at hc2'
 refine W_skip (N_K (q2 (pe 2 Z (q3 (W_ret (rt1 results97 Z ?_))))))
 exact H.retV ⟨_,rfl,by first|omega|(simp only[wHeld,wItem,wSnap,wHelds,wItems,wSnaps,wDisk]at *; omega)⟩
theorem w_szHeld_c (w0:World)(G0:PH)(hG:PSub G0 w0)(ca:List Value)(a:BHeld)(ha:heldE G0 a ca)(left:Int)(hl: -1≤left∧left≤1099511627776) :
  Calls Tryz.prog 60 #[.agg ca.toArray,.int .i64 left] w0 (RetV w0 (fun v=>∃r:Int,v= .int .i64 r∧(r= -1∨(0≤r∧r+(wHeld a:Int)≤left)))):=by
 obtain⟨_,_,_,rfl,_,hr1,_,_,_⟩:=ox ha
 have H:=Hp.init hG
 refine calls_of_W (l:=[_,.int .i64 left]) func60 Z ntmps60 Z (q2 (o_box H Z Z Z ?_));intro _ _ _ H
 refine aG Z (q1 (fA 1 Z (lB 0 H Z3 (mV Z (xc Z2 (w_szIntS_c _ _ H.sub _ _ hr1 _ oO) ?_)))))
 rintro _ _ ⟨_,rfl,ew3,⟨_,rfl,_⟩⟩
 skip
 have H:=H.step ew3;refine⟨_,rfl,?_⟩
 refine aG Z (q3 (W_seq (q2 (pe 2 Z (q3 ?_)))))
 refine W_cond Z ?_ ?_
 ·intro hc4
  try simp only[nrm]at hc4
  refine q2 (aG Z (q3 (W_ret (N_K_ret (rt1 results60 Z ?_)))))
  exact H.retV ⟨_,rfl,by first|omega|(simp only[wHeld,wItem,wSnap,wHelds,wItems,wSnaps,wDisk]at *; omega)⟩
 intro hc4'
 try simp only[nrm]at hc4'
 refine W_skip (N_K (q2 (pe 2 Z (q3 (W_ret (rt1 results60 Z ?_))))))
 exact H.retV ⟨_,rfl,by first|omega|(simp only[wHeld,wItem,wSnap,wHelds,wItems,wSnaps,wDisk]at *; omega)⟩
theorem w_szHeldS_c (w0:World)(G0:PH)(hG:PSub G0 w0)(va:Value)(a:List (BHeld))(ha:RdH G0 va a)(left:Int)(hl: -1≤left∧left≤1099511627776) :
  Calls Tryz.prog 22 #[va,.int .i64 left] w0 (RetV w0 (fun v=>∃r:Int,v= .int .i64 r∧(r= -1∨(0≤r∧r+(wHelds a:Int)≤left)))):=by
 obtain⟨aa,ka,rfl⟩:=ha.shape
 have hlima:a.length≤1099511627776:=ha.lim
 have H:=Hp.init hG
 refine calls_of_W (l:=[.slice aa a.length ka,.int .i64 left]) func22 Z ntmps22 Z (q2 (aG Z (q1 (pe 2 Z (lN Z (o_sub Z Z Z oO (aG Z (q3 (W_seq (q2 (pe 2 Z (q3 ?_))))))))))))
 refine W_cond Z ?_ ?_
 ·intro hc2
  try simp only[nrm]at hc2
  refine q2 (aG Z (q3 (W_ret (N_K_ret (rt1 results22 Z ?_)))))
  exact H.retV ⟨_,rfl,by first|omega|(simp only[wHeld,wItem,wSnap,wHelds,wItems,wSnaps,wDisk]at *; omega)⟩
 intro hc2'
 try simp only[nrm]at hc2'
 refine W_skip (N_K (W_seq (q2 (aG Z (q3 (W_block ?_))))))
 refine W_lp (hf:=(Sub.cons (t:=0) Z Sub.nil)) (J:=fun M w m=>∃(k:Nat) (lf:Int) (G:PH),M=[(5,.int .i64 (k:Int)),(1,.int .i64 lf)]∧PLe G0 G∧Hp w0 G0 [] w G []∧(k≤a.length∧0≤lf∧lf+(a.length:Int)+(cnt wHeld (a.take k):Int)≤left)∧m=(a.length-k)) (h0:=⟨0,(left-(a.length:Int)),_,Z,PLe.refl _,H,?inv,Z⟩) (round:=?round)
 case inv=>exact⟨by omega,by omega,by (simp only[List.take_zero,cnt];omega)⟩
 case round =>
  rintro _ _ _ ⟨k,lf,_,rfl,hle3,H,hinv3,rfl⟩
  have ha:=ha.up hle3
  obtain⟨_,_,_⟩:=hinv3
  refine W_seq (q2 (pe 2 Z (lN Z (pe 1 Z (q3 ?_)))))
  refine W_cond Z ?_ ?_
  ·intro hc4
   try simp only[nrm]at hc4
   refine W_skip (N_K (W_seq (W_block (q2 (pe 2 Z (iP k ha Z3 Z ?_))))));intro _ _ _ _ hz5 hE5 hrow5
   obtain⟨_,_,_,rfl,_,hr5,_,_,_⟩:=ox hE5
   refine o_loadagg_P H isAgg94 sizeOf94 Z Z hrow5 Z (mV Z ?_)
   refine xc Z2 (w_szHeld_c _ _ H.sub _ _ ⟨_,_,_,Z,⟨by first|omega|(dsimp only;omega),by first|omega|(dsimp only;omega)⟩,hr5,⟨by first|omega|(dsimp only;omega),by first|omega|(dsimp only;omega)⟩⟩ _ oO) ?_
   rintro _ _ ⟨_,rfl,ew6,⟨r6,rfl,_⟩⟩
   skip
   have H:=H.step ew6;refine⟨_,rfl,?_⟩
   refine aG Z (q1 (pe 2 Z (q3 ?_)))
   refine W_cond Z ?_ ?_
   ·intro hc7
    try simp only[nrm]at hc7
    refine q2 (aG Z (q3 (W_ret (N_B_ret (N_K_ret (N_LP_ret (N_B_ret (N_K_ret (rt1 results22 Z ?_)))))))))
    exact H.retV ⟨_,rfl,by first|omega|(simp only[wHeld,wItem,wSnap,wHelds,wItems,wSnaps,wDisk]at *; omega)⟩
   intro hc7'
   try simp only[nrm]at hc7'
   refine W_skip (N_B (N_K (W_region (mV Z (aD Z2 (aG Z (R_nil ?_)))))))
   refine N_lp (hJ:=⟨k+1,r6,_,Z,hle3,H,?inv,Z⟩) (hm:=?hm)
   case hm=>omega
   case inv=>exact⟨by omega,by omega,by (have hcs:=cnt_succ (c:=wHeld) hz5;omega)⟩
  intro hc4'
  try simp only[nrm]at hc4'
  refine W_exit (N_K_exit (N_LP_exit (N_B_same (N_K (q2 (pe 2 Z (q3 (W_ret (rt1 results22 Z ?_)))))))))
  have hce:=cnt_end (c:=wHeld) (show k=a.length by omega)
  exact H.retV ⟨_,rfl,by first|omega|(simp only[wHeld,wItem,wSnap,wHelds,wItems,wSnaps,wDisk]at *; omega)⟩
theorem w_szItem_c (w0:World)(G0:PH)(hG:PSub G0 w0)(ca:List Value)(a:BItem)(ha:itemE G0 a ca)(left:Int)(hl: -1≤left∧left≤1099511627776) :
  Calls Tryz.prog 61 #[.agg ca.toArray,.int .i64 left] w0 (RetV w0 (fun v=>∃r:Int,v= .int .i64 r∧(r= -1∨(0≤r∧r+(wItem a:Int)≤left)))):=by
 obtain⟨_,_,_,rfl,_,hr1,_,_⟩:=ox ha
 have H:=Hp.init hG
 refine calls_of_W (l:=[_,.int .i64 left]) func61 Z ntmps61 Z (q2 (o_box H Z Z Z ?_));intro _ _ _ H
 refine aG Z (q1 (mV Z (fA 0 Z (lB 0 H Z3 (lS Z (o_sub Z Z Z oO (aG Z (q3 (W_seq (q2 (pe 2 Z (q3 ?_))))))))))))
 refine W_cond Z ?_ ?_
 ·intro hc4
  try simp only[nrm]at hc4
  refine q2 (aG Z (q3 (W_ret (N_K_ret (rt1 results61 Z ?_)))))
  exact H.retV ⟨_,rfl,by first|omega|(simp only[wHeld,wItem,wSnap,wHelds,wItems,wSnaps,wDisk]at *; omega)⟩
 intro hc4'
 try simp only[nrm]at hc4'
 refine W_skip (N_K (q2 (fA 2 Z (lB 0 H Z3 (mV Z (xc Z2 (w_szIntS_c _ _ H.sub _ _ hr1 _ oO) ?_))))))
 rintro _ _ ⟨_,rfl,ew5,⟨_,rfl,_⟩⟩
 skip
 have H:=H.step ew5;refine⟨_,rfl,?_⟩
 refine aG Z (q3 (W_seq (q2 (pe 2 Z (q3 ?_)))))
 refine W_cond Z ?_ ?_
 ·intro hc6
  try simp only[nrm]at hc6
  refine q2 (aG Z (q3 (W_ret (N_K_ret (rt1 results61 Z ?_)))))
  exact H.retV ⟨_,rfl,by first|omega|(simp only[wHeld,wItem,wSnap,wHelds,wItems,wSnaps,wDisk]at *; omega)⟩
 intro hc6'
 try simp only[nrm]at hc6'
 refine W_skip (N_K (q2 (pe 2 Z (q3 (W_ret (rt1 results61 Z ?_))))))
 exact H.retV ⟨_,rfl,by first|omega|(simp only[wHeld,wItem,wSnap,wHelds,wItems,wSnaps,wDisk]at *; omega)⟩
theorem w_szItemS_c (w0:World)(G0:PH)(hG:PSub G0 w0)(va:Value)(a:List (BItem))(ha:RdItems G0 va a)(left:Int)(hl: -1≤left∧left≤1099511627776) :
  Calls Tryz.prog 23 #[va,.int .i64 left] w0 (RetV w0 (fun v=>∃r:Int,v= .int .i64 r∧(r= -1∨(0≤r∧r+(wItems a:Int)≤left)))):=by
 obtain⟨aa,ka,rfl⟩:=ha.shape
 have hlima:a.length≤1099511627776:=ha.lim
 have H:=Hp.init hG
 refine calls_of_W (l:=[.slice aa a.length ka,.int .i64 left]) func23 Z ntmps23 Z (q2 (aG Z (q1 (pe 2 Z (lN Z (o_sub Z Z Z oO (aG Z (q3 (W_seq (q2 (pe 2 Z (q3 ?_))))))))))))
 refine W_cond Z ?_ ?_
 ·intro hc2
  try simp only[nrm]at hc2
  refine q2 (aG Z (q3 (W_ret (N_K_ret (rt1 results23 Z ?_)))))
  exact H.retV ⟨_,rfl,by first|omega|(simp only[wHeld,wItem,wSnap,wHelds,wItems,wSnaps,wDisk]at *; omega)⟩
 intro hc2'
 try simp only[nrm]at hc2'
 refine W_skip (N_K (W_seq (q2 (aG Z (q3 (W_block ?_))))))
 refine W_lp (hf:=(Sub.cons (t:=0) Z Sub.nil)) (J:=fun M w m=>∃(k:Nat) (lf:Int) (G:PH),M=[(5,.int .i64 (k:Int)),(1,.int .i64 lf)]∧PLe G0 G∧Hp w0 G0 [] w G []∧(k≤a.length∧0≤lf∧lf+(a.length:Int)+(cnt wItem (a.take k):Int)≤left)∧m=(a.length-k)) (h0:=⟨0,(left-(a.length:Int)),_,Z,PLe.refl _,H,?inv,Z⟩) (round:=?round)
 case inv=>exact⟨by omega,by omega,by (simp only[List.take_zero,cnt];omega)⟩
 case round =>
  rintro _ _ _ ⟨k,lf,_,rfl,hle3,H,hinv3,rfl⟩
  have ha:=ha.up hle3
  obtain⟨_,_,_⟩:=hinv3
  refine W_seq (q2 (pe 2 Z (lN Z (pe 1 Z (q3 ?_)))))
  refine W_cond Z ?_ ?_
  ·intro hc4
   try simp only[nrm]at hc4
   refine W_skip (N_K (W_seq (W_block (q2 (pe 2 Z (iP k ha Z3 Z ?_))))));intro _ _ _ _ hz5 hE5 hrow5
   obtain⟨_,_,_,rfl,hi5,hr5,_,_⟩:=ox hE5
   refine o_loadagg_P H isAgg97 sizeOf97 Z Z hrow5 Z (mV Z (xc Z2 (w_szItem_c _ _ H.sub _ _ ⟨_,_,_,Z,hi5,hr5⟩ _ oO) ?_))
   rintro _ _ ⟨_,rfl,ew6,⟨r6,rfl,_⟩⟩
   skip
   have H:=H.step ew6;refine⟨_,rfl,?_⟩
   refine aG Z (q1 (pe 2 Z (q3 ?_)))
   refine W_cond Z ?_ ?_
   ·intro hc7
    try simp only[nrm]at hc7
    refine q2 (aG Z (q3 (W_ret (N_B_ret (N_K_ret (N_LP_ret (N_B_ret (N_K_ret (rt1 results23 Z ?_)))))))))
    exact H.retV ⟨_,rfl,by first|omega|(simp only[wHeld,wItem,wSnap,wHelds,wItems,wSnaps,wDisk]at *; omega)⟩
   intro hc7'
   try simp only[nrm]at hc7'
   refine W_skip (N_B (N_K (W_region (mV Z (aD Z2 (aG Z (R_nil ?_)))))))
   refine N_lp (hJ:=⟨k+1,r6,_,Z,hle3,H,?inv,Z⟩) (hm:=?hm)
   case hm=>omega
   case inv=>exact⟨by omega,by omega,by (have hcs:=cnt_succ (c:=wItem) hz5;omega)⟩
  intro hc4'
  try simp only[nrm]at hc4'
  refine W_exit (N_K_exit (N_LP_exit (N_B_same (N_K (q2 (pe 2 Z (q3 (W_ret (rt1 results23 Z ?_)))))))))
  have hce:=cnt_end (c:=wItem) (show k=a.length by omega)
  exact H.retV ⟨_,rfl,by first|omega|(simp only[wHeld,wItem,wSnap,wHelds,wItems,wSnaps,wDisk]at *; omega)⟩
theorem w_szSnap_c (w0:World)(G0:PH)(hG:PSub G0 w0)(ca:List Value)(a:BSnap)(ha:snapE G0 a ca)(left:Int)(hl: -1≤left∧left≤1099511627776) :
  Calls Tryz.prog 62 #[.agg ca.toArray,.int .i64 left] w0 (RetV w0 (fun v=>∃r:Int,v= .int .i64 r∧(r= -1∨(0≤r∧r+(wSnap a:Int)≤left)))):=by
 obtain⟨_,_,_,rfl,_,hr1,_,_⟩:=ox ha
 have H:=Hp.init hG
 refine calls_of_W (l:=[_,.int .i64 left]) func62 Z ntmps62 Z (q2 (o_box H Z Z Z ?_));intro _ _ _ H
 refine aG Z (q1 (mV Z (fA 0 Z (lB 0 H Z3 (lS Z (o_sub Z Z Z oO (aG Z (q3 (W_seq (q2 (pe 2 Z (q3 ?_))))))))))))
 refine W_cond Z ?_ ?_
 ·intro hc4
  try simp only[nrm]at hc4
  refine q2 (aG Z (q3 (W_ret (N_K_ret (rt1 results62 Z ?_)))))
  exact H.retV ⟨_,rfl,by first|omega|(simp only[wHeld,wItem,wSnap,wHelds,wItems,wSnaps,wDisk]at *; omega)⟩
 intro hc4'
 try simp only[nrm]at hc4'
 refine W_skip (N_K (q2 (fA 1 Z (lB 0 H Z3 (mV Z (xc Z2 (w_szItemS_c _ _ H.sub _ _ hr1 _ oO) ?_))))))
 rintro _ _ ⟨_,rfl,ew5,⟨_,rfl,_⟩⟩
 skip
 have H:=H.step ew5;refine⟨_,rfl,?_⟩
 refine aG Z (q3 (W_seq (q2 (pe 2 Z (q3 ?_)))))
 refine W_cond Z ?_ ?_
 ·intro hc6
  try simp only[nrm]at hc6
  refine q2 (aG Z (q3 (W_ret (N_K_ret (rt1 results62 Z ?_)))))
  exact H.retV ⟨_,rfl,by first|omega|(simp only[wHeld,wItem,wSnap,wHelds,wItems,wSnaps,wDisk]at *; omega)⟩
 intro hc6'
 try simp only[nrm]at hc6'
 refine W_skip (N_K (q2 (pe 2 Z (q3 (W_ret (rt1 results62 Z ?_))))))
 exact H.retV ⟨_,rfl,by first|omega|(simp only[wHeld,wItem,wSnap,wHelds,wItems,wSnaps,wDisk]at *; omega)⟩
theorem w_szSnapS_c (w0:World)(G0:PH)(hG:PSub G0 w0)(va:Value)(a:List (BSnap))(ha:RdSn G0 va a)(left:Int)(hl: -1≤left∧left≤1099511627776) :
  Calls Tryz.prog 24 #[va,.int .i64 left] w0 (RetV w0 (fun v=>∃r:Int,v= .int .i64 r∧(r= -1∨(0≤r∧r+(wSnaps a:Int)≤left)))):=by
 obtain⟨aa,ka,rfl⟩:=ha.shape
 have hlima:a.length≤1099511627776:=ha.lim
 have H:=Hp.init hG
 refine calls_of_W (l:=[.slice aa a.length ka,.int .i64 left]) func24 Z ntmps24 Z (q2 (aG Z (q1 (pe 2 Z (lN Z (o_sub Z Z Z oO (aG Z (q3 (W_seq (q2 (pe 2 Z (q3 ?_))))))))))))
 refine W_cond Z ?_ ?_
 ·intro hc2
  try simp only[nrm]at hc2
  refine q2 (aG Z (q3 (W_ret (N_K_ret (rt1 results24 Z ?_)))))
  exact H.retV ⟨_,rfl,by first|omega|(simp only[wHeld,wItem,wSnap,wHelds,wItems,wSnaps,wDisk]at *; omega)⟩
 intro hc2'
 try simp only[nrm]at hc2'
 refine W_skip (N_K (W_seq (q2 (aG Z (q3 (W_block ?_))))))
 refine W_lp (hf:=(Sub.cons (t:=0) Z Sub.nil)) (J:=fun M w m=>∃(k:Nat) (lf:Int) (G:PH),M=[(5,.int .i64 (k:Int)),(1,.int .i64 lf)]∧PLe G0 G∧Hp w0 G0 [] w G []∧(k≤a.length∧0≤lf∧lf+(a.length:Int)+(cnt wSnap (a.take k):Int)≤left)∧m=(a.length-k)) (h0:=⟨0,(left-(a.length:Int)),_,Z,PLe.refl _,H,?inv,Z⟩) (round:=?round)
 case inv=>exact⟨by omega,by omega,by (simp only[List.take_zero,cnt];omega)⟩
 case round =>
  rintro _ _ _ ⟨k,lf,_,rfl,hle3,H,hinv3,rfl⟩
  have ha:=ha.up hle3
  obtain⟨_,_,_⟩:=hinv3
  refine W_seq (q2 (pe 2 Z (lN Z (pe 1 Z (q3 ?_)))))
  refine W_cond Z ?_ ?_
  ·intro hc4
   try simp only[nrm]at hc4
   refine W_skip (N_K (W_seq (W_block (q2 (pe 2 Z (iP k ha Z3 Z ?_))))));intro _ _ _ _ hz5 hE5 hrow5
   obtain⟨_,_,_,rfl,hi5,hr5,_,_⟩:=ox hE5
   refine o_loadagg_P H isAgg100 sizeOf100 Z Z hrow5 Z (mV Z (xc Z2 (w_szSnap_c _ _ H.sub _ _ ⟨_,_,_,Z,hi5,hr5⟩ _ oO) ?_))
   rintro _ _ ⟨_,rfl,ew6,⟨r6,rfl,_⟩⟩
   skip
   have H:=H.step ew6;refine⟨_,rfl,?_⟩
   refine aG Z (q1 (pe 2 Z (q3 ?_)))
   refine W_cond Z ?_ ?_
   ·intro hc7
    try simp only[nrm]at hc7
    refine q2 (aG Z (q3 (W_ret (N_B_ret (N_K_ret (N_LP_ret (N_B_ret (N_K_ret (rt1 results24 Z ?_)))))))))
    exact H.retV ⟨_,rfl,by first|omega|(simp only[wHeld,wItem,wSnap,wHelds,wItems,wSnaps,wDisk]at *; omega)⟩
   intro hc7'
   try simp only[nrm]at hc7'
   refine W_skip (N_B (N_K (W_region (mV Z (aD Z2 (aG Z (R_nil ?_)))))))
   refine N_lp (hJ:=⟨k+1,r6,_,Z,hle3,H,?inv,Z⟩) (hm:=?hm)
   case hm=>omega
   case inv=>exact⟨by omega,by omega,by (have hcs:=cnt_succ (c:=wSnap) hz5;omega)⟩
  intro hc4'
  try simp only[nrm]at hc4'
  refine W_exit (N_K_exit (N_LP_exit (N_B_same (N_K (q2 (pe 2 Z (q3 (W_ret (rt1 results24 Z ?_)))))))))
  have hce:=cnt_end (c:=wSnap) (show k=a.length by omega)
  exact H.retV ⟨_,rfl,by first|omega|(simp only[wHeld,wItem,wSnap,wHelds,wItems,wSnaps,wDisk]at *; omega)⟩
theorem w_szDisk_c (w0:World)(G0:PH)(hG:PSub G0 w0)(ca:List Value)(a:BDisk)(ha:diskE G0 a ca)(left:Int)(hl: -1≤left∧left≤1099511627776) :
  Calls Tryz.prog 6 #[.agg ca.toArray,.int .i64 left] w0 (RetV w0 (fun v=>∃r:Int,v= .int .i64 r∧(r= -1∨(0≤r∧r+(wDisk a:Int)≤left)))):=by
 obtain⟨_,_,_,_,_,_,_,_,_,rfl,hr1,hr1',hr1'',⟨_,_⟩,⟨_,_⟩,_,_⟩:=ox ha
 have H:=Hp.init hG
 refine calls_of_W (l:=[_,.int .i64 left]) func6 Z ntmps6 Z (q2 (o_box H Z Z Z ?_));intro _ _ _ H
 refine aG Z (q1 (fA 0 Z (lB 0 H Z3 (mV Z (xc Z2 (w_szHeldS_c _ _ H.sub _ _ hr1 _ oO) ?_)))))
 rintro _ _ ⟨_,rfl,ew3,⟨_,rfl,_⟩⟩
 skip
 have H:=H.step ew3;refine⟨_,rfl,?_⟩
 refine aG Z (q3 (W_seq (q2 (pe 2 Z (q3 ?_)))))
 refine W_cond Z ?_ ?_
 ·intro hc4
  try simp only[nrm]at hc4
  refine q2 (aG Z (q3 (W_ret (N_K_ret (rt1 results6 Z ?_)))))
  exact H.retV ⟨_,rfl,by first|omega|(simp only[wHeld,wItem,wSnap,wHelds,wItems,wSnaps,wDisk]at *; omega)⟩
 intro hc4'
 try simp only[nrm]at hc4'
 refine W_skip (N_K (q2 (fA 1 Z (lB 0 H Z3 (mV Z (xc Z2 (w_szItemS_c _ _ H.sub _ _ hr1' _ oO) ?_))))))
 rintro _ _ ⟨_,rfl,ew5,⟨_,rfl,_⟩⟩
 skip
 have H:=H.step ew5;refine⟨_,rfl,?_⟩
 refine aG Z (q3 (W_seq (q2 (pe 2 Z (q3 ?_)))))
 refine W_cond Z ?_ ?_
 ·intro hc6
  try simp only[nrm]at hc6
  refine q2 (aG Z (q3 (W_ret (N_K_ret (rt1 results6 Z ?_)))))
  exact H.retV ⟨_,rfl,by first|omega|(simp only[wHeld,wItem,wSnap,wHelds,wItems,wSnaps,wDisk]at *; omega)⟩
 intro hc6'
 try simp only[nrm]at hc6'
 refine W_skip (N_K (q2 (fA 2 Z (lB 0 H Z3 (mV Z (xc Z2 (w_szSnapS_c _ _ H.sub _ _ hr1'' _ oO) ?_))))))
 rintro _ _ ⟨_,rfl,ew7,⟨_,rfl,_⟩⟩
 skip
 have H:=H.step ew7;refine⟨_,rfl,?_⟩
 refine aG Z (q3 (W_seq (q2 (pe 2 Z (q3 ?_)))))
 refine W_cond Z ?_ ?_
 ·intro hc8
  try simp only[nrm]at hc8
  refine q2 (aG Z (q3 (W_ret (N_K_ret (rt1 results6 Z ?_)))))
  exact H.retV ⟨_,rfl,by first|omega|(simp only[wHeld,wItem,wSnap,wHelds,wItems,wSnaps,wDisk]at *; omega)⟩
 intro hc8'
 try simp only[nrm]at hc8'
 refine W_skip (N_K (q2 (pe 2 Z (q3 (W_ret (rt1 results6 Z ?_))))))
 exact H.retV ⟨_,rfl,by first|omega|(simp only[wHeld,wItem,wSnap,wHelds,wItems,wSnaps,wDisk]at *; omega)⟩
theorem w_eqIntS_c (w0:World)(G0:PH)(hG:PSub G0 w0)(va:Value)(a:List (Int))(ha:RdI G0 va a)(vb:Value)(b:List (Int))(hb:RdI G0 vb b)(hab:a=b) :
  Calls Tryz.prog 108 #[va,vb] w0 (Rets w0 (.bool true)):=by
 obtain⟨aa,ka,rfl⟩:=ha.shape
 have hlima:a.length≤1099511627776:=ha.lim
 obtain⟨ab,kb,rfl⟩:=hb.shape
 have hlimb:b.length≤1099511627776:=hb.lim
 have hle:=congrArg List.length hab
 have H:=Hp.init hG
 refine calls_of_W (l:=[.slice aa a.length ka,.slice ab b.length kb]) func108 Z ntmps108 Z (q2 (aG Z (q3 (W_seq (q2 (mV Z (lN Z (mV Z (lN Z (pe 1 Z (q3 ?_)))))))))))
 refine W_cond Z ?_ ?_
 ·intro hc1
  try simp only[nrm]at hc1
  refine q2 (aG Z (q3 (W_ret (N_K_ret (rt1 results108 Z ?_)))))
  exact absurd (show False from by omega) id
 intro hc1'
 try simp only[nrm]at hc1'
 refine W_skip (N_K (W_seq (q2 (aG Z (q3 (W_block ?_))))))
 refine W_lp (hf:=(Sub.cons (t:=0) Z (Sub.cons (t:=1) Z Sub.nil))) (J:=fun M w m=>∃(k:Nat) (G:PH),M=[(5,.int .i64 (k:Int))]∧PLe G0 G∧Hp w0 G0 [] w G []∧(k≤a.length)∧m=(a.length-k)) (h0:=⟨0,_,Z,PLe.refl _,H,?inv,Z⟩) (round:=?round)
 case inv=>omega
 case round =>
  rintro _ _ _ ⟨k,G2,rfl,hle2,H,hinv2,rfl⟩
  have ha:=ha.up hle2
  have hb:=hb.up hle2
  have hk:=hinv2
  refine W_seq (q2 (pe 2 Z (lN Z (pe 1 Z (q3 ?_)))))
  refine W_cond Z ?_ ?_
  ·intro hc3
   try simp only[nrm]at hc3
   refine W_skip (N_K (W_seq (W_block (W_seq (W_drawK [] 9 H kR Z ?_)))));intro _ H;have hd4:=PLe.refl G2
   refine dE 0 Z2 (dE 1 Z2 ?_)
   have hl5:=ha.len
   obtain⟨_,_,_,_,ha5,hz5,hq5,hE5,hrow5,_⟩:=ha.at (i:=k) oM
   clear hq5
   obtain⟨rfl,_⟩:=hE5
   refine dI 2 1 k ha5 Z3 Z (dP 3 hrow5 0 Z3 (dE 4 Z2 (dE 5 Z2 ?_)))
   have hl6:=hb.len
   obtain⟨_,_,_,_,ha6,hz6,hq6,hE6,hrow6,_⟩:=hb.at (i:=k) oM
   clear hq6
   obtain⟨rfl,_⟩:=hE6
   refine dI 6 1 k ha6 Z3 Z (dP 7 hrow6 0 Z3 (dE 8 Z2 (rz (N_K ?_))))
   refine W_cond Z ?_ ?_
   ·intro hc7
    try simp only[nrm]at hc7
    refine q2 (aG Z (q3 (W_ret (N_B_ret (N_K_ret (N_LP_ret (N_B_ret (N_K_ret (rt1 results108 Z ?_)))))))))
    exact absurd (show False from by first|omega|(exact hc7 (Sp.same_at hab hz5 hz6))) id
   intro hc7'
   try simp only[nrm]at hc7'
   refine W_skip (N_B (N_K (W_region (mV Z (aD Z2 (aG Z (R_nil ?_)))))))
   refine N_lp (hJ:=⟨k+1,_,Z,hle2,H,?inv,Z⟩) (hm:=?hm)
   case hm=>omega
   case inv=>omega
  intro hc3'
  try simp only[nrm]at hc3'
  refine W_exit (N_K_exit (N_LP_exit (N_B_same (N_K (q2 (aG Z (q3 (W_ret (rt1 results108 Z ?_)))))))))
  exact H.rets Z
theorem w_eqHeld_c (w0:World)(G0:PH)(hG:PSub G0 w0)(ca:List Value)(a:BHeld)(ha:heldE G0 a ca)(cb:List Value)(b:BHeld)(hb:heldE G0 b cb)(hab:a=b) :
  Calls Tryz.prog 72 #[.agg ca.toArray,.agg cb.toArray] w0 (Rets w0 (.bool true)):=by
 obtain⟨_,_,_,rfl,_,hr1,_,_,_⟩:=ox ha
 obtain⟨_,_,_,rfl,_,hr2,_,_,_⟩:=ox hb
 have H:=Hp.init hG
 refine calls_of_W (l:=[_,_]) func72 Z ntmps72 Z (q2 (o_box H Z Z Z ?_));intro _ _ _ H
 refine o_box H Z Z Z ?_;intro _ _ _ H
 refine aG Z (q3 (W_seq (q2 (fA 0 Z (lB 1 H Z3 (fA 0 Z (lB 0 H Z3 (pe 1 Z (q3 ?_)))))))))
 refine W_cond Z ?_ ?_
 ·intro hc5
  try simp only[nrm]at hc5
  refine q2 (aG Z (q3 (W_ret (N_K_ret (rt1 results72 Z ?_)))))
  exact absurd (show False from by simp[hab]at hc5) id
 intro hc5'
 try simp only[nrm]at hc5'
 refine W_skip (N_K (W_seq (q2 (fA 1 Z (lB 1 H Z3 (fA 1 Z (lB 0 H Z3 (xr H Z2 (w_eqIntS_c _ _ H.sub _ _ hr1 _ _ hr2 (congrArg BHeld.bytes hab)) ?_))))))));intro _ H
 refine pe 1 Z (q3 (W_false Z (W_skip (N_K (W_seq (q2 (fA 2 Z (lB 1 H Z3 (fA 2 Z (lB 0 H Z3 (pe 1 Z (q3 ?_))))))))))))
 refine W_cond Z ?_ ?_
 ·intro hc7
  try simp only[nrm]at hc7
  refine q2 (aG Z (q3 (W_ret (N_K_ret (rt1 results72 Z ?_)))))
  exact absurd (show False from by simp[hab]at hc7) id
 intro hc7'
 try simp only[nrm]at hc7'
 refine W_skip (N_K (q2 (aG Z (q3 (W_ret (rt1 results72 Z ?_))))))
 exact H.rets Z
theorem w_eqHeldS_c (w0:World)(G0:PH)(hG:PSub G0 w0)(va:Value)(a:List (BHeld))(ha:RdH G0 va a)(vb:Value)(b:List (BHeld))(hb:RdH G0 vb b)(hab:a=b) :
  Calls Tryz.prog 34 #[va,vb] w0 (Rets w0 (.bool true)):=by
 obtain⟨aa,ka,rfl⟩:=ha.shape
 have hlima:a.length≤1099511627776:=ha.lim
 obtain⟨ab,kb,rfl⟩:=hb.shape
 have hlimb:b.length≤1099511627776:=hb.lim
 have hle:=congrArg List.length hab
 have H:=Hp.init hG
 refine calls_of_W (l:=[.slice aa a.length ka,.slice ab b.length kb]) func34 Z ntmps34 Z (q2 (aG Z (q3 (W_seq (q2 (mV Z (lN Z (mV Z (lN Z (pe 1 Z (q3 ?_)))))))))))
 refine W_cond Z ?_ ?_
 ·intro hc1
  try simp only[nrm]at hc1
  refine q2 (aG Z (q3 (W_ret (N_K_ret (rt1 results34 Z ?_)))))
  exact absurd (show False from by omega) id
 intro hc1'
 try simp only[nrm]at hc1'
 refine W_skip (N_K (W_seq (q2 (aG Z (q3 (W_block ?_))))))
 refine W_lp (hf:=(Sub.cons (t:=0) Z (Sub.cons (t:=1) Z Sub.nil))) (J:=fun M w m=>∃(k:Nat) (G:PH),M=[(5,.int .i64 (k:Int))]∧PLe G0 G∧Hp w0 G0 [] w G []∧(k≤a.length)∧m=(a.length-k)) (h0:=⟨0,_,Z,PLe.refl _,H,?inv,Z⟩) (round:=?round)
 case inv=>omega
 case round =>
  rintro _ _ _ ⟨k,G2,rfl,hle2,H,hinv2,rfl⟩
  have ha:=ha.up hle2
  have hb:=hb.up hle2
  have hk:=hinv2
  refine W_seq (q2 (pe 2 Z (lN Z (pe 1 Z (q3 ?_)))))
  refine W_cond Z ?_ ?_
  ·intro hc3
   try simp only[nrm]at hc3
   refine W_skip (N_K (W_seq (W_block (W_seq (W_drawK [] 10 H kR Z ?_)))));intro _ H;have hd4:=PLe.refl G2
   refine dE 0 Z2 (dE 1 Z2 ?_)
   have hl5:=ha.len
   obtain⟨_,_,_,_,ha5,hz5,hq5,hE5,hrow5,_⟩:=ha.at (i:=k) oM
   clear hq5
   obtain⟨_,_,_,rfl,_,hr5,_,_,_⟩:=ox hE5
   refine dI 2 3 k ha5 Z3 Z (RD_t 3 Z kR Z (fun _ hK=>v_loadagg_P hK isAgg107 sizeOf107 Z hrow5 Z) (dE 4 Z2 (dE 5 Z2 ?_)))
   have hl6:=hb.len
   obtain⟨_,_,_,_,ha6,hz6,hq6,hE6,hrow6,_⟩:=hb.at (i:=k) oM
   clear hq6
   obtain⟨_,_,_,rfl,_,hr6,_,_,_⟩:=ox hE6
   refine dI 6 3 k ha6 Z3 Z (RD_t 7 Z kR Z (fun _ hK=>v_loadagg_P hK isAgg107 sizeOf107 Z hrow6 Z) (r1 8 Z ?_))
   refine xr H Z2 (w_eqHeld_c _ _ H.sub _ _ ⟨_,_,_,Z,⟨by first|omega|(dsimp only;omega),by first|omega|(dsimp only;omega)⟩,hr5,⟨by first|omega|(dsimp only;omega),by first|omega|(dsimp only;omega)⟩⟩ _ _ ⟨_,_,_,rfl,⟨by first|omega|(dsimp only;omega),by first|omega|(dsimp only;omega)⟩,hr6,⟨by first|omega|(dsimp only;omega),by first|omega|(dsimp only;omega)⟩⟩ (Sp.same_at hab hz5 hz6)) ?_;intro _ H
   refine q4 H hd4 (dE 9 Z2 (rz (N_K (W_false Z (W_skip (N_B (N_K (W_region (mV Z (aD Z2 (aG Z (R_nil ?_))))))))))))
   refine N_lp (hJ:=⟨k+1,_,Z,hle2,H,?inv,Z⟩) (hm:=?hm)
   case hm=>omega
   case inv=>omega
  intro hc3'
  try simp only[nrm]at hc3'
  refine W_exit (N_K_exit (N_LP_exit (N_B_same (N_K (q2 (aG Z (q3 (W_ret (rt1 results34 Z ?_)))))))))
  exact H.rets Z
theorem w_eqItem_c (w0:World)(G0:PH)(hG:PSub G0 w0)(ca:List Value)(a:BItem)(ha:itemE G0 a ca)(cb:List Value)(b:BItem)(hb:itemE G0 b cb)(hab:a=b) :
  Calls Tryz.prog 73 #[.agg ca.toArray,.agg cb.toArray] w0 (Rets w0 (.bool true)):=by
 obtain⟨_,_,_,rfl,_,hr1,_,_⟩:=ox ha
 obtain⟨_,_,_,rfl,_,hr2,_,_⟩:=ox hb
 have H:=Hp.init hG
 refine calls_of_W (l:=[_,_]) func73 Z ntmps73 Z (q2 (o_box H Z Z Z ?_));intro _ _ _ H
 refine o_box H Z Z Z ?_;intro _ _ _ H
 refine aG Z (q3 (W_seq (q2 (fA 0 Z (lB 1 H Z3 (fA 0 Z (lB 0 H Z3 (o_sneq Z Z Z (q3 ?_)))))))))
 refine W_cond Z ?_ ?_
 ·intro hc5
  try simp only[nrm]at hc5
  refine q2 (aG Z (q3 (W_ret (N_K_ret (rt1 results73 Z ?_)))))
  exact absurd (show False from by simp[hab]at hc5) id
 intro hc5'
 try simp only[nrm]at hc5'
 refine W_skip (N_K (W_seq (q2 (fA 1 Z (lB 1 H Z3 (fA 1 Z (lB 0 H Z3 (o_bneq underlying4 Z Z Z (q3 ?_)))))))))
 refine W_cond Z ?_ ?_
 ·intro hc6
  try simp only[nrm]at hc6
  refine q2 (aG Z (q3 (W_ret (N_K_ret (rt1 results73 Z ?_)))))
  exact absurd (show False from by simp[hab]at hc6) id
 intro hc6'
 try simp only[nrm]at hc6'
 refine W_skip (N_K (W_seq (q2 (fA 2 Z (lB 1 H Z3 (fA 2 Z (lB 0 H Z3 (xr H Z2 (w_eqIntS_c _ _ H.sub _ _ hr1 _ _ hr2 (congrArg BItem.ids hab)) ?_))))))));intro _ H
 refine pe 1 Z (q3 (W_false Z (W_skip (N_K (q2 (aG Z (q3 (W_ret (rt1 results73 Z ?_)))))))))
 exact H.rets Z
theorem w_eqItemS_c (w0:World)(G0:PH)(hG:PSub G0 w0)(va:Value)(a:List (BItem))(ha:RdItems G0 va a)(vb:Value)(b:List (BItem))(hb:RdItems G0 vb b)(hab:a=b) :
  Calls Tryz.prog 35 #[va,vb] w0 (Rets w0 (.bool true)):=by
 obtain⟨aa,ka,rfl⟩:=ha.shape
 have hlima:a.length≤1099511627776:=ha.lim
 obtain⟨ab,kb,rfl⟩:=hb.shape
 have hlimb:b.length≤1099511627776:=hb.lim
 have hle:=congrArg List.length hab
 have H:=Hp.init hG
 refine calls_of_W (l:=[.slice aa a.length ka,.slice ab b.length kb]) func35 Z ntmps35 Z (q2 (aG Z (q3 (W_seq (q2 (mV Z (lN Z (mV Z (lN Z (pe 1 Z (q3 ?_)))))))))))
 refine W_cond Z ?_ ?_
 ·intro hc1
  try simp only[nrm]at hc1
  refine q2 (aG Z (q3 (W_ret (N_K_ret (rt1 results35 Z ?_)))))
  exact absurd (show False from by omega) id
 intro hc1'
 try simp only[nrm]at hc1'
 refine W_skip (N_K (W_seq (q2 (aG Z (q3 (W_block ?_))))))
 refine W_lp (hf:=(Sub.cons (t:=0) Z (Sub.cons (t:=1) Z Sub.nil))) (J:=fun M w m=>∃(k:Nat) (G:PH),M=[(5,.int .i64 (k:Int))]∧PLe G0 G∧Hp w0 G0 [] w G []∧(k≤a.length)∧m=(a.length-k)) (h0:=⟨0,_,Z,PLe.refl _,H,?inv,Z⟩) (round:=?round)
 case inv=>omega
 case round =>
  rintro _ _ _ ⟨k,G2,rfl,hle2,H,hinv2,rfl⟩
  have ha:=ha.up hle2
  have hb:=hb.up hle2
  have hk:=hinv2
  refine W_seq (q2 (pe 2 Z (lN Z (pe 1 Z (q3 ?_)))))
  refine W_cond Z ?_ ?_
  ·intro hc3
   try simp only[nrm]at hc3
   refine W_skip (N_K (W_seq (W_block (W_seq (W_drawK [] 10 H kR Z ?_)))));intro _ H;have hd4:=PLe.refl G2
   refine dE 0 Z2 (dE 1 Z2 ?_)
   have hl5:=ha.len
   obtain⟨_,_,_,_,ha5,hz5,hq5,hE5,hrow5,_⟩:=ha.at (i:=k) oM
   clear hq5
   obtain⟨_,_,_,rfl,hi5,hr5,_,_⟩:=ox hE5
   refine dI 2 3 k ha5 Z3 Z (RD_t 3 Z kR Z (fun _ hK=>v_loadagg_P hK isAgg109 sizeOf109 Z hrow5 Z) (dE 4 Z2 (dE 5 Z2 ?_)))
   have hl6:=hb.len
   obtain⟨_,_,_,_,ha6,hz6,hq6,hE6,hrow6,_⟩:=hb.at (i:=k) oM
   clear hq6
   obtain⟨_,_,_,rfl,hi6,hr6,_,_⟩:=ox hE6
   refine dI 6 3 k ha6 Z3 Z (RD_t 7 Z kR Z (fun _ hK=>v_loadagg_P hK isAgg109 sizeOf109 Z hrow6 Z) (r1 8 Z (xr H Z2 (w_eqItem_c _ _ H.sub _ _ ⟨_,_,_,Z,hi5,hr5⟩ _ _ ⟨_,_,_,Z,hi6,hr6⟩ (Sp.same_at hab hz5 hz6)) ?_)));intro _ H
   refine q4 H hd4 (dE 9 Z2 (rz (N_K (W_false Z (W_skip (N_B (N_K (W_region (mV Z (aD Z2 (aG Z (R_nil ?_))))))))))))
   refine N_lp (hJ:=⟨k+1,_,Z,hle2,H,?inv,Z⟩) (hm:=?hm)
   case hm=>omega
   case inv=>omega
  intro hc3'
  try simp only[nrm]at hc3'
  refine W_exit (N_K_exit (N_LP_exit (N_B_same (N_K (q2 (aG Z (q3 (W_ret (rt1 results35 Z ?_)))))))))
  exact H.rets Z
theorem w_eqSnap_c (w0:World)(G0:PH)(hG:PSub G0 w0)(ca:List Value)(a:BSnap)(ha:snapE G0 a ca)(cb:List Value)(b:BSnap)(hb:snapE G0 b cb)(hab:a=b) :
  Calls Tryz.prog 74 #[.agg ca.toArray,.agg cb.toArray] w0 (Rets w0 (.bool true)):=by
 obtain⟨_,_,_,rfl,_,hr1,_,_⟩:=ox ha
 obtain⟨_,_,_,rfl,_,hr2,_,_⟩:=ox hb
 have H:=Hp.init hG
 refine calls_of_W (l:=[_,_]) func74 Z ntmps74 Z (q2 (o_box H Z Z Z ?_));intro _ _ _ H
 refine o_box H Z Z Z ?_;intro _ _ _ H
 refine aG Z (q3 (W_seq (q2 (fA 0 Z (lB 1 H Z3 (fA 0 Z (lB 0 H Z3 (o_sneq Z Z Z (q3 ?_)))))))))
 refine W_cond Z ?_ ?_
 ·intro hc5
  try simp only[nrm]at hc5
  refine q2 (aG Z (q3 (W_ret (N_K_ret (rt1 results74 Z ?_)))))
  exact absurd (show False from by simp[hab]at hc5) id
 intro hc5'
 try simp only[nrm]at hc5'
 refine W_skip (N_K (W_seq (q2 (fA 1 Z (lB 1 H Z3 (fA 1 Z (lB 0 H Z3 (xr H Z2 (w_eqItemS_c _ _ H.sub _ _ hr1 _ _ hr2 (congrArg BSnap.tree hab)) ?_))))))));intro _ H
 refine pe 1 Z (q3 (W_false Z (W_skip (N_K (q2 (aG Z (q3 (W_ret (rt1 results74 Z ?_)))))))))
 exact H.rets Z
theorem w_eqSnapS_c (w0:World)(G0:PH)(hG:PSub G0 w0)(va:Value)(a:List (BSnap))(ha:RdSn G0 va a)(vb:Value)(b:List (BSnap))(hb:RdSn G0 vb b)(hab:a=b) :
  Calls Tryz.prog 36 #[va,vb] w0 (Rets w0 (.bool true)):=by
 obtain⟨aa,ka,rfl⟩:=ha.shape
 have hlima:a.length≤1099511627776:=ha.lim
 obtain⟨ab,kb,rfl⟩:=hb.shape
 have hlimb:b.length≤1099511627776:=hb.lim
 have hle:=congrArg List.length hab
 have H:=Hp.init hG
 refine calls_of_W (l:=[.slice aa a.length ka,.slice ab b.length kb]) func36 Z ntmps36 Z (q2 (aG Z (q3 (W_seq (q2 (mV Z (lN Z (mV Z (lN Z (pe 1 Z (q3 ?_)))))))))))
 refine W_cond Z ?_ ?_
 ·intro hc1
  try simp only[nrm]at hc1
  refine q2 (aG Z (q3 (W_ret (N_K_ret (rt1 results36 Z ?_)))))
  exact absurd (show False from by omega) id
 intro hc1'
 try simp only[nrm]at hc1'
 refine W_skip (N_K (W_seq (q2 (aG Z (q3 (W_block ?_))))))
 refine W_lp (hf:=(Sub.cons (t:=0) Z (Sub.cons (t:=1) Z Sub.nil))) (J:=fun M w m=>∃(k:Nat) (G:PH),M=[(5,.int .i64 (k:Int))]∧PLe G0 G∧Hp w0 G0 [] w G []∧(k≤a.length)∧m=(a.length-k)) (h0:=⟨0,_,Z,PLe.refl _,H,?inv,Z⟩) (round:=?round)
 case inv=>omega
 case round =>
  rintro _ _ _ ⟨k,G2,rfl,hle2,H,hinv2,rfl⟩
  have ha:=ha.up hle2
  have hb:=hb.up hle2
  have hk:=hinv2
  refine W_seq (q2 (pe 2 Z (lN Z (pe 1 Z (q3 ?_)))))
  refine W_cond Z ?_ ?_
  ·intro hc3
   try simp only[nrm]at hc3
   refine W_skip (N_K (W_seq (W_block (W_seq (W_drawK [] 10 H kR Z ?_)))));intro _ H;have hd4:=PLe.refl G2
   refine dE 0 Z2 (dE 1 Z2 ?_)
   have hl5:=ha.len
   obtain⟨_,_,_,_,ha5,hz5,hq5,hE5,hrow5,_⟩:=ha.at (i:=k) oM
   clear hq5
   obtain⟨_,_,_,rfl,hi5,hr5,_,_⟩:=ox hE5
   refine dI 2 2 k ha5 Z3 Z (RD_t 3 Z kR Z (fun _ hK=>v_loadagg_P hK isAgg106 sizeOf106 Z hrow5 Z) (dE 4 Z2 (dE 5 Z2 ?_)))
   have hl6:=hb.len
   obtain⟨_,_,_,_,ha6,hz6,hq6,hE6,hrow6,_⟩:=hb.at (i:=k) oM
   clear hq6
   obtain⟨_,_,_,rfl,hi6,hr6,_,_⟩:=ox hE6
   refine dI 6 2 k ha6 Z3 Z (RD_t 7 Z kR Z (fun _ hK=>v_loadagg_P hK isAgg106 sizeOf106 Z hrow6 Z) (r1 8 Z (xr H Z2 (w_eqSnap_c _ _ H.sub _ _ ⟨_,_,_,Z,hi5,hr5⟩ _ _ ⟨_,_,_,Z,hi6,hr6⟩ (Sp.same_at hab hz5 hz6)) ?_)));intro _ H
   refine q4 H hd4 (dE 9 Z2 (rz (N_K (W_false Z (W_skip (N_B (N_K (W_region (mV Z (aD Z2 (aG Z (R_nil ?_))))))))))))
   refine N_lp (hJ:=⟨k+1,_,Z,hle2,H,?inv,Z⟩) (hm:=?hm)
   case hm=>omega
   case inv=>omega
  intro hc3'
  try simp only[nrm]at hc3'
  refine W_exit (N_K_exit (N_LP_exit (N_B_same (N_K (q2 (aG Z (q3 (W_ret (rt1 results36 Z ?_)))))))))
  exact H.rets Z
theorem w_eqDisk_c (w0:World)(G0:PH)(hG:PSub G0 w0)(ca:List Value)(a:BDisk)(ha:diskE G0 a ca)(cb:List Value)(b:BDisk)(hb:diskE G0 b cb)(hab:a=b) :
  Calls Tryz.prog 12 #[.agg ca.toArray,.agg cb.toArray] w0 (Rets w0 (.bool true)):=by
 obtain⟨_,_,_,_,_,_,_,_,_,rfl,hr1,hr1',hr1'',⟨_,_⟩,⟨_,_⟩,_,_⟩:=ox ha
 obtain⟨_,_,_,_,_,_,_,_,_,rfl,hr2,hr2',hr2'',⟨_,_⟩,⟨_,_⟩,_,_⟩:=ox hb
 have H:=Hp.init hG
 refine calls_of_W (l:=[_,_]) func12 Z ntmps12 Z (q2 (o_box H Z Z Z ?_));intro _ _ _ H
 refine o_box H Z Z Z ?_;intro _ _ _ H
 refine aG Z (q3 (W_seq (q2 (fA 0 Z (lB 1 H Z3 (fA 0 Z (lB 0 H Z3 (xr H Z2 (w_eqHeldS_c _ _ H.sub _ _ hr1 _ _ hr2 (congrArg BDisk.store hab)) ?_))))))));intro _ H
 refine pe 1 Z (q3 (W_false Z (W_skip (N_K (W_seq (q2 (fA 1 Z (lB 1 H Z3 (fA 1 Z (lB 0 H Z3 (xr H Z2 (w_eqItemS_c _ _ H.sub _ _ hr1' _ _ hr2' (congrArg BDisk.tree hab)) ?_)))))))))));intro _ H
 refine pe 1 Z (q3 (W_false Z (W_skip (N_K (W_seq (q2 (fA 2 Z (lB 1 H Z3 (fA 2 Z (lB 0 H Z3 (xr H Z2 (w_eqSnapS_c _ _ H.sub _ _ hr1'' _ _ hr2'' (congrArg BDisk.snaps hab)) ?_)))))))))));intro _ H
 refine pe 1 Z (q3 (W_false Z (W_skip (N_K (q2 (aG Z (q3 (W_ret (rt1 results12 Z ?_)))))))))
 exact H.rets Z
theorem w_toIntS_c (w0:World)(G0:PH)(hG:PSub G0 w0)(va:Value)(a:List (Int))(ha:RdI G0 va a) :
  Calls Tryz.prog 107 #[va] w0 (RetO w0 G0 (AccOf intE 1 3 a)):=by
 obtain⟨aa,ka,rfl⟩:=ha.shape
 have hlima:a.length≤1099511627776:=ha.lim
 have H:=Hp.init hG
 refine calls_of_W (l:=[.slice aa a.length ka]) func107 Z ntmps107 Z (q2 (aG Z (q1 (mV Z (lN Z (o_makeN (c:=a.length) (sz:=1) (bytes:=8) H underlying92 typeInfo3 ⟨_,Z,Z⟩ Z Z Z Z Z Z Z Z Z oM Z ?_))))));intro _ _ H
 have hchk1:=Chk.rep (E:=intE) (sz:=1) (G:=G0) (x0:=0) (⟨rfl,by decide⟩) rfl (a.length)
 refine aG Z (q3 (W_seq (q2 (aG Z (q3 (W_block ?_))))))
 refine W_lp (hf:=(Sub.cons (t:=0) Z (Sub.cons (t:=2) Z Sub.nil))) (J:=fun M w m=>∃(v:Value) (n:Nat) (cs:List Value) (xs:List (Int)) (k:Nat) (G:PH),M=[(4,.int .i64 (k:Int)),(3,v)]∧PLe G0 G∧Hp w0 G0 [] w G [acc 3 1 v n cs]∧(Chk intE 1 G cs xs∧n=xs.length∧k≤a.length∧xs.length=a.length∧xs.take k=a.take k)∧m=(a.length-k)) (h0:=⟨_,_,_,(List.replicate a.length 0),0,_,Z,PLe.refl _,H,?inv,Z⟩) (round:=?round)
 case inv=>exact⟨hchk1,by first|rfl|simp|(simp;omega)|omega,(by simp)⟩
 case round =>
  rintro _ _ _ ⟨v,n,cs,xs,k,_,rfl,hle2,H,hinv2,rfl⟩
  have ha:=ha.up hle2
  obtain⟨hchk2_0,_,hinv2⟩:=hinv2
  obtain⟨_,_,rfl⟩:=H.accShape (k:=0) rfl
  obtain⟨_,hxl,hxt⟩:=hinv2
  refine W_seq (q2 (pe 2 Z (lN Z (pe 1 Z (q3 ?_)))))
  refine W_cond Z ?_ ?_
  ·intro hc3
   try simp only[nrm]at hc3
   refine W_skip (N_K (W_seq (W_block (W_region (pe 4 Z (iP k ha Z3 Z ?_))))));intro _ _ z4 _ hz4 hE4 hrow4
   obtain⟨rfl,_⟩:=hE4
   refine lP H hrow4 0 Z2 (o_index_A 0 H k Z hchk2_0 underlying92 sizeOf3 Z Z Z Z aN aN ?_);intro _ _ _ hba5 hz5 hE5 _;cases hba5
   obtain⟨rfl,_⟩:=hE5
   have hcl6:=hchk2_0.length
   refine o_store_A 0 H sizeOf3 Z Z Z Z Z (by simp only[vc,List.length_cons,List.length_nil];omega) ?_;intro _ H
   have hchk6:=hchk2_0.put (x':=z4) (off:=0) (vs:=[_]) hz5 (fun cs hl hE=>by obtain⟨rfl,_⟩:=hE;exact⟨rfl,oO⟩) (by simp only[vc,List.length_cons,List.length_nil];omega)
   refine R_nil (N_B (N_K (W_region (mV Z (aD Z2 (aG Z (R_nil ?_)))))))
   refine N_lp (hJ:=⟨_,_,_,(xs.set k z4),k+1,_,Z,hle2,H,?inv,Z⟩) (hm:=?hm)
   case hm=>omega
   case inv=>exact⟨hchk6,aN,(by exact⟨by omega,by simp[hxl],Sp.take_set hxt hxl hz4⟩)⟩
  intro hc3'
  try simp only[nrm]at hc3'
  refine W_exit (N_K_exit (N_LP_exit (N_B_same (N_K (q2 (pe 2 Z (q3 (W_ret (rt1 results107 Z ?_)))))))))
  exact H.retO (k:=0) rfl (by (obtain rfl:k=a.length:=by omega);(have hxx:xs=a:=by (have h9:=hxt;rw[List.take_of_length_le oM,List.take_length]at h9;exact h9));subst hxx;exact AccOf.mk aN hchk2_0) (acc_nd _ _ _ _ _)
theorem w_toHeld_c (w0:World)(G0:PH)(hG:PSub G0 w0)(ca:List Value)(a:BHeld)(ha:heldE G0 a ca) :
  Calls Tryz.prog 69 #[.agg ca.toArray] w0 (RetN w0 G0 (fun v Bs=>∃(F:Fr) (cs:List Value),v= .agg cs.toArray∧Bs=[frag F]∧heldO F a cs)):=by
 obtain⟨_,_,_,rfl,_,hr1,_,_,_⟩:=ox ha
 have H:=Hp.init hG
 refine calls_of_W (l:=[_]) func69 Z ntmps69 Z (q2 (o_box H Z Z Z ?_));intro _ _ _ H
 refine xal H Z ?_;intro _ _ _ H
 refine q1 (xal H Z ?_);intro _ _ _ H
 refine q1 (fA 0 Z (lB 2 H Z3 (fA 0 Z (xst 0 H Z8 ?_))));intro _ H
 refine q1 (fA 1 Z (lB 2 H Z3 (xc Z2 (w_toIntS_c _ _ H.sub _ _ hr1) ?_)))
 rintro _ _ ⟨_,_,_,g6,rfl,⟨_,rfl,hchk6⟩,hp6,hq6,hs6⟩
 have H:=H.growO g6 hp6 hq6 hs6;obtain⟨_,_,rfl⟩:=H.accShape (k:=0) rfl
 refine⟨_,Z,?_⟩
 refine fA 1 Z (xst 1 H Z8 ?_);intro _ H
 refine q1 (fA 2 Z (lB 3 H Z3 (fA 2 Z (xst 1 H Z8 ?_))));intro _ H
 refine q1 (lA 1 3 H Z4 (xst 2 H Z8 ?_));intro _ H
 refine q3 (W_ret (ret_gen (rs:=[.cell 2 107]) (vs:=[_]) results69 ⟨⟨_,Z,load_blk 2 H isAgg107 sizeOf107 Z Z Z⟩,trivial⟩ ?_))
 obtain⟨_,H,hOI1⟩:=H.ownI (k:=0) rfl hchk6 aN aN
 have H:=H.dl 1
 have H:=H.dl 1
 have H:=H.dl 1
 have H:=H.forget hG (by simp)
 exact⟨_,_,Z,H,_,_,Z,Z,⟨_,_,_,Z,oO,hOI1,oO⟩⟩
theorem w_toItem_c (w0:World)(G0:PH)(hG:PSub G0 w0)(ca:List Value)(a:BItem)(ha:itemE G0 a ca) :
  Calls Tryz.prog 70 #[.agg ca.toArray] w0 (RetN w0 G0 (fun v Bs=>∃(F:Fr) (cs:List Value),v= .agg cs.toArray∧Bs=[frag F]∧itemO F a cs)):=by
 obtain⟨_,_,_,rfl,hi1,hr1,_,_⟩:=ox ha
 have H:=Hp.init hG
 refine calls_of_W (l:=[_]) func70 Z ntmps70 Z (q2 (o_box H Z Z Z ?_));intro _ _ _ H
 refine xal H Z ?_;intro _ _ _ H
 refine q1 (xal H Z ?_);intro _ _ _ H
 refine q1 (fA 0 Z (lB 2 H Z3 (fA 0 Z (xst 0 H Z8 ?_))));intro _ H
 refine q1 (fA 1 Z (lB 2 H Z3 (fA 1 Z (xst 0 H Z8 ?_))));intro _ H
 refine q1 (fA 2 Z (lB 2 H Z3 (xc Z2 (w_toIntS_c _ _ H.sub _ _ hr1) ?_)))
 rintro _ _ ⟨_,_,_,g7,rfl,⟨_,rfl,hchk7⟩,hp7,hq7,hs7⟩
 have H:=H.growO g7 hp7 hq7 hs7;obtain⟨_,_,rfl⟩:=H.accShape (k:=0) rfl
 refine⟨_,Z,?_⟩
 refine fA 2 Z (xst 1 H Z8 ?_);intro _ H
 refine q1 (lA 1 3 H Z4 (xst 2 H Z8 ?_));intro _ H
 refine q3 (W_ret (ret_gen (rs:=[.cell 2 109]) (vs:=[_]) results70 ⟨⟨_,Z,load_blk 2 H isAgg109 sizeOf109 Z Z Z⟩,trivial⟩ ?_))
 obtain⟨_,H,hOI1⟩:=H.ownI (k:=0) rfl hchk7 aN aN
 have H:=H.dl 1
 have H:=H.dl 1
 have H:=H.dl 1
 have H:=H.forget hG (by simp)
 exact⟨_,_,Z,H,_,_,Z,Z,⟨_,_,_,Z,hi1,hOI1⟩⟩
theorem w_toHeldS_c (w0:World)(G0:PH)(hG:PSub G0 w0)(va:Value)(a:List (BHeld))(ha:RdH G0 va a) :
  Calls Tryz.prog 29 #[va] w0 (RetN w0 G0 (fun v Bs=>∃(F:Fr),Bs=[frag F]∧OHs F v a)):=by
 obtain⟨aa,ka,rfl⟩:=ha.shape
 have hlima:a.length≤1099511627776:=ha.lim
 have H:=Hp.init hG
 refine calls_of_W (l:=[.slice aa a.length ka]) func29 Z ntmps29 Z (q2 (aG Z (q1 (mV Z (lN Z (o_makeN (c:=a.length) (sz:=3) (bytes:=40) H underlying30 typeInfo107 ⟨_,Z,Z⟩ Z Z Z Z Z Z Z Z Z oM Z ?_))))));intro _ _ H
 have hchk1:=Chk.rep (E:=heldE) (sz:=3) (G:=G0) (x0:=⟨0,[],0⟩) (zeroHeld _) rfl (a.length)
 refine aG Z (q3 (W_seq (q2 (aG Z (q3 (W_block ?_))))))
 have H:=H.addF
 refine W_lp (hf:=(Sub.cons (t:=0) Z (Sub.cons (t:=2) Z Sub.nil))) (J:=fun M w m=>∃(v:Value) (n:Nat) (cs:List Value) (xs:List (BHeld)) (F:Fr) (k:Nat) (G:PH),M=[(4,.int .i64 (k:Int)),(3,v)]∧PLe G0 G∧Hp w0 G0 [] w G [frag F,acc 107 3 v n cs]∧(ChkF heldO 3 cs xs F∧n=xs.length∧k≤a.length∧xs.length=a.length∧xs.take k=a.take k)∧m=(a.length-k)) (h0:=⟨_,_,_,(List.replicate a.length ⟨0,[],0⟩),[],0,_,Z,PLe.refl _,H,?inv,Z⟩) (round:=?round)
 case inv=>exact⟨(ChkF.rep zeroHeldO rfl (a.length)),by first|rfl|simp|(simp;omega)|omega,(by simp)⟩
 case round =>
  rintro _ _ _ ⟨v,n,cs,xs,F,k,_,rfl,hle2,H,hinv2,rfl⟩
  have ha:=ha.up hle2
  obtain⟨hchk2_0,_,hinv2⟩:=hinv2
  obtain⟨_,_,rfl⟩:=H.accShape (k:=1) rfl
  obtain⟨_,hxl,hxt⟩:=hinv2
  refine W_seq (q2 (pe 2 Z (lN Z (pe 1 Z (q3 ?_)))))
  refine W_cond Z ?_ ?_
  ·intro hc3
   try simp only[nrm]at hc3
   refine W_skip (N_K (W_seq (W_block (W_region (pe 4 Z (iP k ha Z3 Z ?_))))));intro _ _ z4 _ hz4 hE4 hrow4
   obtain⟨_,_,_,rfl,_,hr4,_,_,_⟩:=ox hE4
   refine o_loadagg_P H isAgg94 sizeOf94 Z Z hrow4 Z ?_
   refine xc Z2 (w_toHeld_c _ _ H.sub _ _ ⟨_,_,_,Z,⟨by first|omega|(dsimp only;omega),by first|omega|(dsimp only;omega)⟩,hr4,⟨by first|omega|(dsimp only;omega),by first|omega|(dsimp only;omega)⟩⟩) ?_
   rintro _ _ ⟨_,_,rfl,H5',⟨F5,_,rfl,rfl,hO5⟩⟩
   have H:=H.readers (fp:=[]) (by simp) (PLe.refl _) H5'
   obtain⟨_,_,_,rfl,_,ho5,_⟩:=hO5
   refine⟨_,Z,?_⟩
   obtain⟨z6,hz6⟩:∃z,xs[k]? = some z:=⟨_,List.getElem?_eq_getElem aN⟩
   obtain⟨_,P6,_,Q6,hF6,_,hE6,_,hput6,hpu06⟩:=(hchk2_0).focus hz6
   rw[hF6]at H
   refine o_index_F 2 H k Z underlying30 sizeOf107 Z Z Z Z aN ?_;intro _ hba6;cases hba6
   obtain⟨_,_,_,rfl,hi6,ho6,hj6⟩:=hE6
   have hbk6:ChkF heldO 3 _ (xs.set k z6) _:=hpu06 _ z6 (show heldO _ _ _ from⟨_,_,_,rfl,hi6,ho6,hj6⟩)
   have hsame6:xs.set k z6=xs:=Fw.set_same hz6;rw[hsame6]at hbk6
   have hcl7:=(hbk6).length
   have hlt7:k<xs.length:=(List.getElem?_eq_some_iff.1 hz6).1
   try simp only[length_setCs,List.length_set]at hcl7
   try simp only[List.length_set]at hlt7
   refine o_store_A 2 H sizeOf107 Z Z Z Z Z (by simp only[vc,List.length_cons,List.length_nil,length_setCs];omega) ?_;intro _ H
   have H:=H.tF 1
   have H:=H.outFi;have H:=H.del (k:=0) rfl
   have H:=H.tF 2
   have H:=H.toFront (k:=2) rfl;have H:=H.toFront (k:=2) rfl;have H:=H.toFront (k:=2) rfl
   have H:=H.inFi
   have hchk7:=hput6 F5 z4 0 [_,_,_] (by simp) (show heldO _ _ _ from⟨_,_,_,rfl,⟨by first|omega|(dsimp only;omega),by first|omega|(dsimp only;omega)⟩,ho5,⟨by first|omega|(dsimp only;omega),by first|omega|(dsimp only;omega)⟩⟩)
   refine R_nil (N_B (N_K (W_region (mV Z (aD Z2 (aG Z (R_nil ?_)))))))
   refine N_lp (hJ:=⟨_,_,_,(xs.set k z4),(P6++(F5++Q6)),k+1,_,Z,hle2,H,?inv,Z⟩) (hm:=?hm)
   case hm=>omega
   case inv=>exact⟨hchk7,aN,(by exact⟨by omega,by simp[hxl],Sp.take_set hxt hxl hz4⟩)⟩
  intro hc3'
  try simp only[nrm]at hc3'
  refine W_exit (N_K_exit (N_LP_exit (N_B_same (N_K (q2 (pe 2 Z (q3 (W_ret (rt1 results29 Z ?_)))))))))
  have hke:k=a.length:=by omega
  have hxx:xs=a:=by (have h9:=hxt;rw[hke,List.take_of_length_le oM,List.take_length]at h9;exact h9)
  have H:=H.tF 1
  obtain⟨_,H,hOw2⟩:=H.ownF hchk2_0 aN aN
  have H:=H.forget hG (by simp)
  exact⟨_,_,Z,H,_,Z,hxx▸⟨_,hOw2⟩⟩
theorem w_toItemS_c (w0:World)(G0:PH)(hG:PSub G0 w0)(va:Value)(a:List (BItem))(ha:RdItems G0 va a) :
  Calls Tryz.prog 30 #[va] w0 (RetN w0 G0 (fun v Bs=>∃(F:Fr),Bs=[frag F]∧OIs F v a)):=by
 obtain⟨aa,ka,rfl⟩:=ha.shape
 have hlima:a.length≤1099511627776:=ha.lim
 have H:=Hp.init hG
 refine calls_of_W (l:=[.slice aa a.length ka]) func30 Z ntmps30 Z (q2 (aG Z (q1 (mV Z (lN Z (o_makeN (c:=a.length) (sz:=3) (bytes:=48) H underlying31 typeInfo109 ⟨_,Z,Z⟩ Z Z Z Z Z Z Z Z Z oM Z ?_))))));intro _ _ H
 have hchk1:=Chk.rep (E:=itemE) (sz:=3) (G:=G0) (x0:=⟨[],false,[]⟩) (itemE.mk (by decide) (RdS.nil _ _ _)) rfl (a.length)
 refine aG Z (q3 (W_seq (q2 (aG Z (q3 (W_block ?_))))))
 have H:=H.addF
 refine W_lp (hf:=(Sub.cons (t:=0) Z (Sub.cons (t:=2) Z Sub.nil))) (J:=fun M w m=>∃(v:Value) (n:Nat) (cs:List Value) (xs:List (BItem)) (F:Fr) (k:Nat) (G:PH),M=[(4,.int .i64 (k:Int)),(3,v)]∧PLe G0 G∧Hp w0 G0 [] w G [frag F,acc 109 3 v n cs]∧(ChkF itemO 3 cs xs F∧n=xs.length∧k≤a.length∧xs.length=a.length∧xs.take k=a.take k)∧m=(a.length-k)) (h0:=⟨_,_,_,(List.replicate a.length ⟨[],false,[]⟩),[],0,_,Z,PLe.refl _,H,?inv,Z⟩) (round:=?round)
 case inv=>exact⟨(ChkF.rep zeroItemO rfl (a.length)),by first|rfl|simp|(simp;omega)|omega,(by simp)⟩
 case round =>
  rintro _ _ _ ⟨v,n,cs,xs,F,k,_,rfl,hle2,H,hinv2,rfl⟩
  have ha:=ha.up hle2
  obtain⟨hchk2_0,_,hinv2⟩:=hinv2
  obtain⟨_,_,rfl⟩:=H.accShape (k:=1) rfl
  obtain⟨_,hxl,hxt⟩:=hinv2
  refine W_seq (q2 (pe 2 Z (lN Z (pe 1 Z (q3 ?_)))))
  refine W_cond Z ?_ ?_
  ·intro hc3
   try simp only[nrm]at hc3
   refine W_skip (N_K (W_seq (W_block (W_region (pe 4 Z (iP k ha Z3 Z ?_))))));intro _ _ z4 _ hz4 hE4 hrow4
   obtain⟨_,_,_,rfl,hi4,hr4,_,_⟩:=ox hE4
   refine o_loadagg_P H isAgg97 sizeOf97 Z Z hrow4 Z (xc Z2 (w_toItem_c _ _ H.sub _ _ ⟨_,_,_,Z,hi4,hr4⟩) ?_)
   rintro _ _ ⟨_,_,rfl,H5',⟨F5,_,rfl,rfl,hO5⟩⟩
   have H:=H.readers (fp:=[]) (by simp) (PLe.refl _) H5'
   obtain⟨_,_,_,rfl,hi5,ho5⟩:=hO5
   refine⟨_,Z,?_⟩
   obtain⟨z6,hz6⟩:∃z,xs[k]? = some z:=⟨_,List.getElem?_eq_getElem aN⟩
   obtain⟨_,P6,_,Q6,hF6,_,hE6,_,hput6,hpu06⟩:=(hchk2_0).focus hz6
   rw[hF6]at H
   refine o_index_F 2 H k Z underlying31 sizeOf109 Z Z Z Z aN ?_;intro _ hba6;cases hba6
   obtain⟨_,_,_,rfl,hi6,ho6⟩:=hE6;have hy_hi6:_≤16777216:=hi6
   have hbk6:ChkF itemO 3 _ (xs.set k z6) _:=hpu06 _ z6 (show itemO _ _ _ from⟨_,_,_,rfl,hi6,ho6⟩)
   have hsame6:xs.set k z6=xs:=Fw.set_same hz6;rw[hsame6]at hbk6
   have hcl7:=(hbk6).length
   have hlt7:k<xs.length:=(List.getElem?_eq_some_iff.1 hz6).1
   try simp only[length_setCs,List.length_set]at hcl7
   try simp only[List.length_set]at hlt7
   refine o_store_A 2 H sizeOf109 Z Z Z Z Z (by simp only[vc,List.length_cons,List.length_nil,length_setCs];omega) ?_;intro _ H
   have H:=H.tF 1
   have H:=H.outFi;have H:=H.del (k:=0) rfl
   have H:=H.tF 2
   have H:=H.toFront (k:=2) rfl;have H:=H.toFront (k:=2) rfl;have H:=H.toFront (k:=2) rfl
   have H:=H.inFi
   have hchk7:=hput6 F5 z4 0 [_,_,_] (by simp) (show itemO _ _ _ from⟨_,_,_,rfl,hi5,ho5⟩)
   refine R_nil (N_B (N_K (W_region (mV Z (aD Z2 (aG Z (R_nil ?_)))))))
   refine N_lp (hJ:=⟨_,_,_,(xs.set k z4),(P6++(F5++Q6)),k+1,_,Z,hle2,H,?inv,Z⟩) (hm:=?hm)
   case hm=>omega
   case inv=>exact⟨hchk7,aN,(by exact⟨by omega,by simp[hxl],Sp.take_set hxt hxl hz4⟩)⟩
  intro hc3'
  try simp only[nrm]at hc3'
  refine W_exit (N_K_exit (N_LP_exit (N_B_same (N_K (q2 (pe 2 Z (q3 (W_ret (rt1 results30 Z ?_)))))))))
  have hke:k=a.length:=by omega
  have hxx:xs=a:=by (have h9:=hxt;rw[hke,List.take_of_length_le oM,List.take_length]at h9;exact h9)
  have H:=H.tF 1
  obtain⟨_,H,hOw2⟩:=H.ownF hchk2_0 aN aN
  have H:=H.forget hG (by simp)
  exact⟨_,_,Z,H,_,Z,hxx▸⟨_,hOw2⟩⟩
theorem w_toSnap_c (w0:World)(G0:PH)(hG:PSub G0 w0)(ca:List Value)(a:BSnap)(ha:snapE G0 a ca) :
  Calls Tryz.prog 71 #[.agg ca.toArray] w0 (RetN w0 G0 (fun v Bs=>∃(F:Fr) (cs:List Value),v= .agg cs.toArray∧Bs=[frag F]∧snapO F a cs)):=by
 obtain⟨_,_,_,rfl,hi1,hr1,_,_⟩:=ox ha
 have H:=Hp.init hG
 refine calls_of_W (l:=[_]) func71 Z ntmps71 Z (q2 (o_box H Z Z Z ?_));intro _ _ _ H
 refine xal H Z ?_;intro _ _ _ H
 refine q1 (xal H Z ?_);intro _ _ _ H
 refine q1 (fA 0 Z (lB 2 H Z3 (fA 0 Z (xst 0 H Z8 ?_))));intro _ H
 refine q1 (fA 1 Z (lB 2 H Z3 (xc Z2 (w_toItemS_c _ _ H.sub _ _ hr1) ?_)))
 rintro _ _ ⟨_,_,rfl,H6',⟨_,rfl,hO6⟩⟩
 have H:=H.readers (fp:=[]) (by simp) (PLe.refl _) H6'
 obtain⟨_,hP6⟩:=hO6
 obtain⟨_,_,rfl⟩:=OwnS.shape hP6
 have hO6:=OIs.mk hP6
 refine⟨_,Z,?_⟩
 refine fA 1 Z (xst 1 H Z8 ?_);intro _ H
 refine q1 (lA 1 2 H Z4 (xst 2 H Z8 ?_));intro _ H
 refine q3 (W_ret (ret_gen (rs:=[.cell 2 106]) (vs:=[_]) results71 ⟨⟨_,Z,load_blk 2 H isAgg106 sizeOf106 Z Z Z⟩,trivial⟩ ?_))
 have H:=H.dl 1
 have H:=H.dl 1
 have H:=H.dl 1
 have H:=H.forget hG (by simp)
 exact⟨_,_,Z,H,_,_,Z,Z,⟨_,_,_,Z,hi1,hO6⟩⟩
theorem w_toSnapS_c (w0:World)(G0:PH)(hG:PSub G0 w0)(va:Value)(a:List (BSnap))(ha:RdSn G0 va a) :
  Calls Tryz.prog 31 #[va] w0 (RetN w0 G0 (fun v Bs=>∃(F:Fr),Bs=[frag F]∧OSn F v a)):=by
 obtain⟨aa,ka,rfl⟩:=ha.shape
 have hlima:a.length≤1099511627776:=ha.lim
 have H:=Hp.init hG
 refine calls_of_W (l:=[.slice aa a.length ka]) func31 Z ntmps31 Z (q2 (aG Z (q1 (mV Z (lN Z (o_makeN (c:=a.length) (sz:=2) (bytes:=40) H underlying32 typeInfo106 ⟨_,Z,Z⟩ Z Z Z Z Z Z Z Z Z oM Z ?_))))));intro _ _ H
 have hchk1:=Chk.rep (E:=snapE) (sz:=2) (G:=G0) (x0:=⟨[],[]⟩) (⟨_,_,_,rfl,by decide,RdS.nil _ _ _⟩) rfl (a.length)
 refine aG Z (q3 (W_seq (q2 (aG Z (q3 (W_block ?_))))))
 have H:=H.addF
 refine W_lp (hf:=(Sub.cons (t:=0) Z (Sub.cons (t:=2) Z Sub.nil))) (J:=fun M w m=>∃(v:Value) (n:Nat) (cs:List Value) (xs:List (BSnap)) (F:Fr) (k:Nat) (G:PH),M=[(4,.int .i64 (k:Int)),(3,v)]∧PLe G0 G∧Hp w0 G0 [] w G [frag F,acc 106 2 v n cs]∧(ChkF snapO 2 cs xs F∧n=xs.length∧k≤a.length∧xs.length=a.length∧xs.take k=a.take k)∧m=(a.length-k)) (h0:=⟨_,_,_,(List.replicate a.length ⟨[],[]⟩),[],0,_,Z,PLe.refl _,H,?inv,Z⟩) (round:=?round)
 case inv=>exact⟨(ChkF.rep zeroSnapO rfl (a.length)),by first|rfl|simp|(simp;omega)|omega,(by simp)⟩
 case round =>
  rintro _ _ _ ⟨v,n,cs,xs,F,k,_,rfl,hle2,H,hinv2,rfl⟩
  have ha:=ha.up hle2
  obtain⟨hchk2_0,_,hinv2⟩:=hinv2
  obtain⟨_,_,rfl⟩:=H.accShape (k:=1) rfl
  obtain⟨_,hxl,hxt⟩:=hinv2
  refine W_seq (q2 (pe 2 Z (lN Z (pe 1 Z (q3 ?_)))))
  refine W_cond Z ?_ ?_
  ·intro hc3
   try simp only[nrm]at hc3
   refine W_skip (N_K (W_seq (W_block (W_region (pe 4 Z (iP k ha Z3 Z ?_))))));intro _ _ z4 _ hz4 hE4 hrow4
   obtain⟨_,_,_,rfl,hi4,hr4,_,_⟩:=ox hE4
   refine o_loadagg_P H isAgg100 sizeOf100 Z Z hrow4 Z (xc Z2 (w_toSnap_c _ _ H.sub _ _ ⟨_,_,_,Z,hi4,hr4⟩) ?_)
   rintro _ _ ⟨_,_,rfl,H5',⟨F5,_,rfl,rfl,hO5⟩⟩
   have H:=H.readers (fp:=[]) (by simp) (PLe.refl _) H5'
   obtain⟨_,_,_,rfl,hi5,ho5⟩:=hO5
   refine⟨_,Z,?_⟩
   obtain⟨z6,hz6⟩:∃z,xs[k]? = some z:=⟨_,List.getElem?_eq_getElem aN⟩
   obtain⟨_,P6,_,Q6,hF6,_,hE6,_,hput6,hpu06⟩:=(hchk2_0).focus hz6
   rw[hF6]at H
   refine o_index_F 2 H k Z underlying32 sizeOf106 Z Z Z Z aN ?_;intro _ hba6;cases hba6
   obtain⟨_,_,_,rfl,hi6,ho6⟩:=hE6;have hy_hi6:_≤16777216:=hi6
   have hbk6:ChkF snapO 2 _ (xs.set k z6) _:=hpu06 _ z6 (show snapO _ _ _ from⟨_,_,_,rfl,hi6,ho6⟩)
   have hsame6:xs.set k z6=xs:=Fw.set_same hz6;rw[hsame6]at hbk6
   have hcl7:=(hbk6).length
   have hlt7:k<xs.length:=(List.getElem?_eq_some_iff.1 hz6).1
   try simp only[length_setCs,List.length_set]at hcl7
   try simp only[List.length_set]at hlt7
   refine o_store_A 2 H sizeOf106 Z Z Z Z Z (by simp only[vc,List.length_cons,List.length_nil,length_setCs];omega) ?_;intro _ H
   have H:=H.tF 1
   have H:=H.outFi;have H:=H.del (k:=0) rfl
   have H:=H.tF 2
   have H:=H.toFront (k:=2) rfl;have H:=H.toFront (k:=2) rfl;have H:=H.toFront (k:=2) rfl
   have H:=H.inFi
   have hchk7:=hput6 F5 z4 0 [_,_] (by simp) (show snapO _ _ _ from⟨_,_,_,rfl,hi5,ho5⟩)
   refine R_nil (N_B (N_K (W_region (mV Z (aD Z2 (aG Z (R_nil ?_)))))))
   refine N_lp (hJ:=⟨_,_,_,(xs.set k z4),(P6++(F5++Q6)),k+1,_,Z,hle2,H,?inv,Z⟩) (hm:=?hm)
   case hm=>omega
   case inv=>exact⟨hchk7,aN,(by exact⟨by omega,by simp[hxl],Sp.take_set hxt hxl hz4⟩)⟩
  intro hc3'
  try simp only[nrm]at hc3'
  refine W_exit (N_K_exit (N_LP_exit (N_B_same (N_K (q2 (pe 2 Z (q3 (W_ret (rt1 results31 Z ?_)))))))))
  have hke:k=a.length:=by omega
  have hxx:xs=a:=by (have h9:=hxt;rw[hke,List.take_of_length_le oM,List.take_length]at h9;exact h9)
  have H:=H.tF 1
  obtain⟨_,H,hOw2⟩:=H.ownF hchk2_0 aN aN
  have H:=H.forget hG (by simp)
  exact⟨_,_,Z,H,_,Z,hxx▸⟨_,hOw2⟩⟩
theorem w_toDisk_c (w0:World)(G0:PH)(hG:PSub G0 w0)(ca:List Value)(a:BDisk)(ha:diskE G0 a ca) :
  Calls Tryz.prog 9 #[.agg ca.toArray] w0 (RetN w0 G0 (fun v Bs=>∃(v1 v2 v3:Value) (F1 F2 F3:Fr),v= .agg #[v1,v2,v3]∧Bs=[frag F1,frag F2,frag F3]∧OHs F1 v1 a.store∧OIs F2 v2 a.tree∧OSn F3 v3 a.snaps)):=by
 obtain⟨_,_,_,_,_,_,_,_,_,rfl,hr1,hr1',hr1'',⟨_,_⟩,⟨_,_⟩,_,_⟩:=ox ha
 have H:=Hp.init hG
 refine calls_of_W (l:=[_]) func9 Z ntmps9 Z (q2 (o_box H Z Z Z ?_));intro _ _ _ H
 refine xal H Z ?_;intro _ _ _ H
 refine q1 (xal H Z ?_);intro _ _ _ H
 refine q1 (fA 0 Z (lB 2 H Z3 (xc Z2 (w_toHeldS_c _ _ H.sub _ _ hr1) ?_)))
 rintro _ _ ⟨_,_,rfl,H5',⟨_,rfl,hO5⟩⟩
 have H:=H.readers (fp:=[]) (by simp) (PLe.refl _) H5'
 obtain⟨_,hP5⟩:=hO5
 obtain⟨_,_,rfl⟩:=OwnS.shape hP5
 have hO5:=OHs.mk hP5
 refine⟨_,Z,?_⟩
 refine fA 0 Z (xst 1 H Z8 ?_);intro _ H
 refine q1 (fA 1 Z (lB 3 H Z3 (xc Z2 (w_toItemS_c _ _ H.sub _ _ hr1') ?_)))
 rintro _ _ ⟨_,_,rfl,H7',⟨_,rfl,hO7⟩⟩
 have H:=H.readers (fp:=[]) (by simp) (PLe.refl _) H7'
 obtain⟨_,hP7⟩:=hO7
 obtain⟨_,_,rfl⟩:=OwnS.shape hP7
 have hO7:=OIs.mk hP7
 refine⟨_,Z,?_⟩
 refine fA 1 Z (xst 2 H Z8 ?_);intro _ H
 refine q1 (fA 2 Z (lB 4 H Z3 (xc Z2 (w_toSnapS_c _ _ H.sub _ _ hr1'') ?_)))
 rintro _ _ ⟨_,_,rfl,H9',⟨_,rfl,hO9⟩⟩
 have H:=H.readers (fp:=[]) (by simp) (PLe.refl _) H9'
 obtain⟨_,hP9⟩:=hO9
 obtain⟨_,_,rfl⟩:=OwnS.shape hP9
 have hO9:=OSn.mk hP9
 refine⟨_,Z,?_⟩
 refine fA 2 Z (xst 3 H Z8 ?_);intro _ H
 refine q1 (lA 3 3 H Z4 (xst 4 H Z8 ?_));intro _ H
 refine q3 (W_ret (ret_gen (rs:=[.cell 2 34]) (vs:=[_]) results9 ⟨⟨_,Z,load_blk 4 H isAgg34 sizeOf34 Z Z Z⟩,trivial⟩ ?_))
 have H:=H.sel [2,1,0] rfl
 have H:=H.forget hG (by simp)
 exact⟨_,_,Z,H,_,_,_,_,_,_,Z,Z,hO5,hO7,hO9⟩
theorem w_markText_c (w0:World)(k:Int)(hk:k≤2199023255552) :
  Calls Tryz.prog 41 #[.int .i64 k] w0 (Rets w0 (str (mtext k))):=by
 have H:=Hp.init0 w0
 refine calls_of_W (l:=[.int .i64 k]) func41 Z ntmps41 Z (q2 (aG Z (q3 (W_seq (q2 (pe 2 Z (q3 ?_)))))))
 refine W_cond Z ?_ ?_
 ·intro hc1
  try simp only[nrm]at hc1
  refine q2 (aG Z (q3 (W_ret (N_K_ret (rt1 results41 Z ?_)))))
  exact H.rets (by (rw[mtext,if_pos oM];rfl))
 intro hc1'
 try simp only[nrm]at hc1'
 refine W_skip (N_K (q2 (aG Z (q3 (W_seq (W_block ?_))))))
 refine W_lp (hf:=(Sub.cons (t:=2) Z Sub.nil)) (J:=fun M w m=>∃(kk:Int) (out:Bs) (G:PH),M=[(0,.int .i64 kk),(3,str out)]∧PLe (fun _=>none) G∧Hp w0 (fun _=>none) [] w G []∧(0≤kk∧kk≤k∧digs k.toNat=digs kk.toNat++out)∧m=(kk.toNat)) (h0:=⟨k,[],_,Z,PLe.refl _,H,?inv,Z⟩) (round:=?round)
 case inv=>exact⟨by omega,by omega,by simp⟩
 case round =>
  rintro _ _ _ ⟨kk,out,_,rfl,hle2,H,hinv2,rfl⟩
  obtain⟨_,_,hdg⟩:=hinv2;have hol:out.length≤20:=(by have h8:=congrArg List.length hdg;have h9:=digs_len 13 k.toNat oM;simp at h8;omega)
  refine W_seq (q2 (pe 2 Z (q3 ?_)))
  refine W_cond Z ?_ ?_
  ·intro hc3
   try simp only[nrm]at hc3
   refine W_skip (N_K (W_block (q2 (mV Z (o_rem Z Z Z oM oM (aD Z2 (o_conv (by simp[underlying3]) underlying5 Z Z (wrap_u8 oO) (xbs H Z7 ?_))))))));intro _ _ _ H
   refine o_convbytes1 0 H underlying45 underlying5 underlying9 Z Z Z (mV Z ?_)
   refine o_sadd Z Z Z (by simp;omega) ?_
   refine aG Z (q3 (W_region (mV Z (o_quo Z Z Z oM oM oM (aG Z (R_nil (N_B ?_)))))))
   have H:=H.dl 0
   refine N_lp (hJ:=⟨kk / 10,([UInt8.ofNat (48+kk % 10).toNat]++out),_,Z,hle2,H,?inv,Z⟩) (hm:=?hm)
   case hm=>omega
   case inv=>exact⟨by omega,by omega,(by rw[hdg,digs_pos (n:=kk.toNat) oM,show(48+kk % 10).toNat=48+kk.toNat % 10 by omega,show(kk / 10).toNat=kk.toNat / 10 by omega,List.append_assoc])⟩
  intro hc3'
  try simp only[nrm]at hc3'
  refine W_exit (N_K_exit (N_LP_exit (N_B_same (N_K (q2 (mV Z ?_))))))
  refine o_sadd Z Z Z (by simp;omega) ?_
  refine aG Z (q3 (W_ret (rt1 results41 Z ?_)))
  obtain rfl:kk=0:=by omega
  exact H.rets (by (rw[mtext,if_neg oM,hdg,show(0:Int).toNat=0 from rfl,digs_zero];rfl))
theorem w_markIntS_c (w0:World)(G0:PH)(hG:PSub G0 w0)(Fa:Fr)(va:Value)(a:List (Int))(hOa:OI Fa va a)(k:Int)(hLent:Lent w0 G0 [frag Fa])(hb:0≤k∧k+(cnt cI a:Int)≤2199023255552) :
  Calls Tryz.prog 75 #[va,.int .i64 k] w0 (RetM w0 G0 (fps [frag Fa]) (fun G' v Bs=>∃(F':Fr),v= .int .i64 (k+(cnt cI a:Int))∧Bs=[frag F']∧OI F' va (mks mI cI k a))):=by
 obtain⟨ea,hPa⟩:=hOa;have hlima:a.length≤1099511627776:=hPa.1;obtain⟨aa,ka,rfl⟩:=OwnS.shape hPa
 have H:Hp w0 G0 (fps [frag Fa]) w0 G0 [frag Fa]:=hLent.hp
 obtain⟨_,Ra,H,hcka⟩:=H.openF hPa
 refine calls_of_W (l:=[.slice aa a.length ka,.int .i64 k]) func75 Z ntmps75 Z (q2 (aG Z (q3 (W_seq (q2 (aG Z (q3 (W_block ?_))))))))
 refine W_lp (hf:=(Sub.cons (t:=4) Z Sub.nil)) (J:=fun M w m=>∃(v:Value) (n:Nat) (cs:List Value) (xs:List (Int)) (F:Fr) (i:Nat) (kk:Int) (G:PH),M=[(5,.int .i64 (i:Int)),(1,.int .i64 kk),(0,v)]∧PLe G0 G∧Hp w0 G0 (fps [frag Fa]) w G [acc ea 1 v n cs,frag F]∧(ChkF intO 1 cs xs F∧n=xs.length∧i≤a.length∧kk=k+(cnt cI (a.take i):Int)∧xs=mks mI cI k (a.take i)++a.drop i∧v= .slice aa a.length ka)∧m=(a.length-i)) (h0:=⟨_,_,_,a,Ra,0,k,_,Z,PLe.refl _,H,?inv,Z⟩) (round:=?round)
 case inv=>exact⟨hcka,by first|rfl|simp|(simp;omega)|omega,(by simp[cnt,mks])⟩
 case round =>
  rintro _ _ _ ⟨v,n,cs,xs,F,i,kk,_,rfl,hle1,H,hinv1,rfl⟩
  obtain⟨hchk1_0,_,hinv1⟩:=hinv1
  obtain⟨_,_,rfl⟩:=H.accShape (k:=0) rfl
  obtain⟨hi,hkk,hxs,hv⟩:=hinv1;have hxl:xs.length=a.length:=(by (rw[hxs];exact half_len hi));have hctk:=cnt_tk (c:=cI) a i
  refine W_seq (q2 (pe 2 Z (lN Z (pe 1 Z (q3 ?_)))))
  refine W_cond Z ?_ ?_
  ·intro hc2
   try simp only[nrm]at hc2
   refine W_skip (N_K (W_seq (W_block (q2 (pe 3 Z ?_)))))
   obtain⟨z3,hz3⟩:∃z,xs[i]? = some z:=⟨_,List.getElem?_eq_getElem aN⟩
   obtain⟨_,P3,_,Q3,hF3,_,hE3,_,hput3,hpu03⟩:=(hchk1_0).focus hz3
   rw[hF3]at H
   refine o_index_F 0 H i Z underlying92 sizeOf3 Z Z Z Z aN ?_;intro _ hba3;cases hba3
   obtain⟨rfl,rfl,hi3⟩:=hE3
   have hbk3:ChkF intO 1 _ (xs.set i z3) _:=hpu03 [] z3 (show intO _ _ _ from⟨rfl,rfl,hi3⟩)
   have hsame3:xs.set i z3=xs:=Fw.set_same hz3;rw[hsame3]at hbk3
   have hat:=half_at hxs hz3 hi;have hcl:=cnt_le (c:=cI) hat
   have hch:cI z3=1:=rfl
   have hcl4:=(hbk3).length
   have hlt4:i<xs.length:=(List.getElem?_eq_some_iff.1 hz3).1
   try simp only[length_setCs,List.length_set]at hcl4
   try simp only[List.length_set]at hlt4
   refine o_store_A 0 H sizeOf3 Z Z Z Z Z (by simp only[vc,List.length_cons,List.length_nil,length_setCs];omega) ?_;intro _ H
   have hchk4:=hput3 [] kk 0 [_] (by simp) (show intO _ _ _ from⟨rfl,rfl,oO⟩)
   refine q3 (W_region (mV Z (aD Z2 (aG Z (R_nil (N_B (N_K (W_region (mV Z (aD Z2 (aG Z (R_nil ?_))))))))))))
   refine N_lp (hJ:=⟨_,_,_,(xs.set i kk),(P3++([]++Q3)),i+1,kk+1,_,Z,hle1,H,?inv,Z⟩) (hm:=?hm)
   case hm=>omega
   case inv=>exact⟨hchk4,aN,(by exact⟨by omega,by (rw[cnt_succ hat];omega),half_step hxs hz3 hi hkk,hv⟩)⟩
  intro hc2'
  try simp only[nrm]at hc2'
  refine W_exit (N_K_exit (N_LP_exit (N_B_same (N_K (q2 (pe 2 Z (q3 (W_ret (rt1 results75 Z ?_)))))))))
  have hie:i=a.length:=by omega
  have hxx:xs=mks mI cI k a:=by (rw[hxs];exact half_end hie)
  have hce:=cnt_end (c:=cI) hie
  have H:=H.tF 1
  have H:=H.tF 1
  obtain⟨_,H,hOw1⟩:=H.ownF hchk1_0 aN aN
  exact H.retM ⟨_,congrArg (Value.int .i64) (by (rw[hkk,hce])),rfl,hxx▸hv▸⟨_,hOw1⟩⟩
theorem w_markHeldS_c (w0:World)(G0:PH)(hG:PSub G0 w0)(Fa:Fr)(va:Value)(a:List (BHeld))(hOa:OHs Fa va a)(k:Int)(hLent:Lent w0 G0 [frag Fa])(hb:0≤k∧k+(cnt cHeld a:Int)≤2199023255552) :
  Calls Tryz.prog 38 #[va,.int .i64 k] w0 (RetM w0 G0 (fps [frag Fa]) (fun G' v Bs=>∃(F':Fr),v= .int .i64 (k+(cnt cHeld a:Int))∧Bs=[frag F']∧OHs F' va (mks mHeld cHeld k a))):=by
 obtain⟨ea,hPa⟩:=hOa;have hlima:a.length≤1099511627776:=hPa.1;obtain⟨aa,ka,rfl⟩:=OwnS.shape hPa
 have H:Hp w0 G0 (fps [frag Fa]) w0 G0 [frag Fa]:=hLent.hp
 obtain⟨_,Ra,H,hcka⟩:=H.openF hPa
 refine calls_of_W (l:=[.slice aa a.length ka,.int .i64 k]) func38 Z ntmps38 Z (q2 (aG Z (q3 (W_seq (q2 (aG Z (q3 (W_block ?_))))))))
 refine W_lp (hf:=(Sub.cons (t:=4) Z Sub.nil)) (J:=fun M w m=>∃(v:Value) (n:Nat) (cs:List Value) (xs:List (BHeld)) (F:Fr) (i:Nat) (kk:Int) (G:PH),M=[(5,.int .i64 (i:Int)),(1,.int .i64 kk),(0,v)]∧PLe G0 G∧Hp w0 G0 (fps [frag Fa]) w G [acc ea 3 v n cs,frag F]∧(ChkF heldO 3 cs xs F∧n=xs.length∧i≤a.length∧kk=k+(cnt cHeld (a.take i):Int)∧xs=mks mHeld cHeld k (a.take i)++a.drop i∧v= .slice aa a.length ka)∧m=(a.length-i)) (h0:=⟨_,_,_,a,Ra,0,k,_,Z,PLe.refl _,H,?inv,Z⟩) (round:=?round)
 case inv=>exact⟨hcka,by first|rfl|simp|(simp;omega)|omega,(by simp[cnt,mks])⟩
 case round =>
  rintro _ _ _ ⟨v,n,cs,xs,F,i,kk,_,rfl,hle1,H,hinv1,rfl⟩
  obtain⟨hchk1_0,_,hinv1⟩:=hinv1
  obtain⟨_,_,rfl⟩:=H.accShape (k:=0) rfl
  obtain⟨hi,hkk,hxs,hv⟩:=hinv1;have hxl:xs.length=a.length:=(by (rw[hxs];exact half_len hi));have hctk:=cnt_tk (c:=cHeld) a i
  refine W_seq (q2 (pe 2 Z (lN Z (pe 1 Z (q3 ?_)))))
  refine W_cond Z ?_ ?_
  ·intro hc2
   try simp only[nrm]at hc2
   refine W_skip (N_K (W_seq (W_block (q2 (pe 3 Z ?_)))))
   obtain⟨z3,hz3⟩:∃z,xs[i]? = some z:=⟨_,List.getElem?_eq_getElem aN⟩
   obtain⟨_,_,_,_,hF3,_,hE3,_,hput3,hpu03⟩:=(hchk1_0).focus hz3
   rw[hF3]at H
   refine o_index_F 0 H i Z underlying30 sizeOf107 Z Z Z Z aN ?_;intro _ hba3;cases hba3
   obtain⟨_,_,_,rfl,hi3,ho3,hj3⟩:=hE3
   have hbk3:ChkF heldO 3 _ (xs.set i z3) _:=hpu03 _ z3 (show heldO _ _ _ from⟨_,_,_,rfl,hi3,ho3,hj3⟩)
   have hsame3:xs.set i z3=xs:=Fw.set_same hz3;rw[hsame3]at hbk3
   have hat:=half_at hxs hz3 hi;have hcl:=cnt_le (c:=cHeld) hat
   have hch:cHeld z3=2+cnt cI z3.bytes:=rfl
   refine fA 0 Z ?_
   have hcl4:=(hbk3).length
   have hlt4:i<xs.length:=(List.getElem?_eq_some_iff.1 hz3).1
   try simp only[length_setCs,List.length_set]at hcl4
   try simp only[List.length_set]at hlt4
   refine o_store_A 0 H sizeOf3 Z Z Z Z Z (by simp only[vc,List.length_cons,List.length_nil,length_setCs];omega) ?_;intro _ H
   have hchk4:=hput3 _ ⟨kk,z3.bytes,z3.uses⟩ 0 [_] (by simp) (show heldO _ _ _ from⟨_,_,_,rfl,⟨by first|omega|(dsimp only;omega),by first|omega|(dsimp only;omega)⟩,ho3,hj3⟩)
   refine q1 (mV Z (aD Z2 (aG Z (q1 (pe 2 Z ?_)))))
   obtain⟨z6,hz6⟩:∃z,(xs.set i ⟨kk,z3.bytes,z3.uses⟩)[i]? = some z:=⟨_,List.getElem?_eq_getElem aN⟩
   obtain⟨_,_,_,_,hF6,_,hE6,hg6,_,hpu06⟩:=(hchk4).focus hz6
   rw[hF6]at H
   refine o_index_F 0 H i Z underlying30 sizeOf107 Z Z Z Z aN ?_;intro _ hba6;cases hba6
   obtain⟨_,_,_,rfl,hi6,ho6,hj6⟩:=hE6
   have hbk6:ChkF heldO 3 _ ((xs.set i ⟨kk,z3.bytes,z3.uses⟩).set i z6) _:=hpu06 _ z6 (show heldO _ _ _ from⟨_,_,_,rfl,hi6,ho6,hj6⟩)
   have hsame6:(xs.set i ⟨kk,z3.bytes,z3.uses⟩).set i z6=(xs.set i ⟨kk,z3.bytes,z3.uses⟩):=Fw.set_same hz6;rw[hsame6]at hbk6
   have hze6:=Fw.set_at hz6
   have hzb6:z6.bytes=z3.bytes:=by simp only[hze6]
   have hzc6:cnt cI z6.bytes=cnt cI z3.bytes:=by rw[hzb6]
   refine fA 1 Z (o_load_A 0 H isAgg92 Z Z Z (hg6 1 _ Z) (mV Z ?_))
   have H:=H.tF 1
   have H:=H.outFi
   refine xc Z2 (w_markIntS_c _ _ H.sub _ _ _ ho6 _ H.lent1 oO) ?_
   rintro _ _ ⟨_,_,_,rfl,H7',⟨F7,rfl,rfl,hO7⟩⟩
   have hle1:=hle1.trans H7'.le
   have H:=H.borrow1 H7'
   refine⟨_,Z,?_⟩
   have H:=H.tF 2
   have H:=H.tF 2
   have H:=H.tF 2
   have H:=H.inFi
   have hcb1:=hpu06 F7 ⟨z6.id,mks mI cI (kk+1) z6.bytes,z6.uses⟩ (show heldO _ _ _ from⟨_,_,_,rfl,hi6,hO7,hj6⟩)
   refine aG Z (q1 (pe 3 Z ?_))
   obtain⟨z8,hz8⟩:∃z,((xs.set i ⟨kk,z3.bytes,z3.uses⟩).set i ⟨z6.id,mks mI cI (kk+1) z6.bytes,z6.uses⟩)[i]? = some z:=⟨_,List.getElem?_eq_getElem aN⟩
   obtain⟨_,P8,Fi8,Q8,hF8,_,hE8,_,hput8,hpu08⟩:=(hcb1).focus hz8
   rw[hF8]at H
   refine o_index_F 1 H i Z underlying30 sizeOf107 Z Z Z Z aN ?_;intro _ hba8;cases hba8
   obtain⟨_,_,_,rfl,hi8,ho8,hj8⟩:=hE8
   have hbk8:ChkF heldO 3 _ (((xs.set i ⟨kk,z3.bytes,z3.uses⟩).set i ⟨z6.id,mks mI cI (kk+1) z6.bytes,z6.uses⟩).set i z8) _:=hpu08 _ z8 (show heldO _ _ _ from⟨_,_,_,rfl,hi8,ho8,hj8⟩)
   have hsame8:((xs.set i ⟨kk,z3.bytes,z3.uses⟩).set i ⟨z6.id,mks mI cI (kk+1) z6.bytes,z6.uses⟩).set i z8=((xs.set i ⟨kk,z3.bytes,z3.uses⟩).set i ⟨z6.id,mks mI cI (kk+1) z6.bytes,z6.uses⟩):=Fw.set_same hz8;rw[hsame8]at hbk8
   have hze8:=Fw.set_at hz8
   refine fA 2 Z ?_
   have hcl9:=(hbk8).length
   have hlt9:i<((xs.set i ⟨kk,z3.bytes,z3.uses⟩).set i ⟨z6.id,mks mI cI (kk+1) z6.bytes,z6.uses⟩).length:=(List.getElem?_eq_some_iff.1 hz8).1
   try simp only[length_setCs,List.length_set]at hcl9
   try simp only[List.length_set]at hlt9
   refine o_store_A 1 H sizeOf3 Z Z Z Z Z (by simp only[vc,List.length_cons,List.length_nil,length_setCs];omega) ?_;intro _ H
   have hchk9:=hput8 _ ⟨z8.id,z8.bytes,kk+1+(cnt cI z6.bytes:Int)⟩ 2 [_] (by simp) (show heldO _ _ _ from⟨_,_,_,rfl,hi8,ho8,⟨by first|omega|(dsimp only;omega),by first|omega|(dsimp only;omega)⟩⟩)
   refine q3 (W_region (mV Z (aD Z2 (aG Z (R_nil (N_B (N_K (W_region (mV Z (aD Z2 (aG Z (R_nil ?_))))))))))))
   have H:=H.tF 1
   refine N_lp (hJ:=⟨_,_,_,(((xs.set i ⟨kk,z3.bytes,z3.uses⟩).set i ⟨z6.id,mks mI cI (kk+1) z6.bytes,z6.uses⟩).set i ⟨z8.id,z8.bytes,kk+1+(cnt cI z6.bytes:Int)⟩),(P8++(Fi8++Q8)),i+1,kk+1+(cnt cI z6.bytes:Int)+1,_,Z,hle1,H,?inv,Z⟩) (hm:=?hm)
   case hm=>omega
   case inv=>exact⟨hchk9,aN,(by exact⟨by omega,by (rw[cnt_succ hat];omega),(by (subst hze8;subst hze6;simp only[List.set_set];exact half_step hxs hz3 hi (by (rw[←hkk];rfl)))),hv⟩)⟩
  intro hc2'
  try simp only[nrm]at hc2'
  refine W_exit (N_K_exit (N_LP_exit (N_B_same (N_K (q2 (pe 2 Z (q3 (W_ret (rt1 results38 Z ?_)))))))))
  have hie:i=a.length:=by omega
  have hxx:xs=mks mHeld cHeld k a:=by (rw[hxs];exact half_end hie)
  have hce:=cnt_end (c:=cHeld) hie
  have H:=H.tF 1
  have H:=H.tF 1
  obtain⟨_,H,hOw2⟩:=H.ownF hchk1_0 aN aN
  exact H.retM ⟨_,congrArg (Value.int .i64) (by (rw[hkk,hce])),rfl,hxx▸hv▸⟨_,hOw2⟩⟩
theorem w_markItemS_c (w0:World)(G0:PH)(hG:PSub G0 w0)(Fa:Fr)(va:Value)(a:List (BItem))(hOa:OIs Fa va a)(k:Int)(hLent:Lent w0 G0 [frag Fa])(hb:0≤k∧k+(cnt cItem a:Int)≤2199023255552) :
  Calls Tryz.prog 39 #[va,.int .i64 k] w0 (RetM w0 G0 (fps [frag Fa]) (fun G' v Bs=>∃(F':Fr),v= .int .i64 (k+(cnt cItem a:Int))∧Bs=[frag F']∧OIs F' va (mks mItem cItem k a))):=by
 obtain⟨ea,hPa⟩:=hOa;have hlima:a.length≤1099511627776:=hPa.1;obtain⟨aa,ka,rfl⟩:=OwnS.shape hPa
 have H:Hp w0 G0 (fps [frag Fa]) w0 G0 [frag Fa]:=hLent.hp
 obtain⟨_,Ra,H,hcka⟩:=H.openF hPa
 refine calls_of_W (l:=[.slice aa a.length ka,.int .i64 k]) func39 Z ntmps39 Z (q2 (aG Z (q3 (W_seq (q2 (aG Z (q3 (W_block ?_))))))))
 refine W_lp (hf:=(Sub.cons (t:=4) Z Sub.nil)) (J:=fun M w m=>∃(v:Value) (n:Nat) (cs:List Value) (xs:List (BItem)) (F:Fr) (i:Nat) (kk:Int) (G:PH),M=[(5,.int .i64 (i:Int)),(1,.int .i64 kk),(0,v)]∧PLe G0 G∧Hp w0 G0 (fps [frag Fa]) w G [acc ea 3 v n cs,frag F]∧(ChkF itemO 3 cs xs F∧n=xs.length∧i≤a.length∧kk=k+(cnt cItem (a.take i):Int)∧xs=mks mItem cItem k (a.take i)++a.drop i∧v= .slice aa a.length ka)∧m=(a.length-i)) (h0:=⟨_,_,_,a,Ra,0,k,_,Z,PLe.refl _,H,?inv,Z⟩) (round:=?round)
 case inv=>exact⟨hcka,by first|rfl|simp|(simp;omega)|omega,(by simp[cnt,mks])⟩
 case round =>
  rintro _ _ _ ⟨v,n,cs,xs,F,i,kk,_,rfl,hle1,H,hinv1,rfl⟩
  obtain⟨hchk1_0,_,hinv1⟩:=hinv1
  obtain⟨_,_,rfl⟩:=H.accShape (k:=0) rfl
  obtain⟨hi,hkk,hxs,hv⟩:=hinv1;have hxl:xs.length=a.length:=(by (rw[hxs];exact half_len hi));have hctk:=cnt_tk (c:=cItem) a i;have hmt:(mtext kk).length≤16777216:=(by have h9:=mtext_len (k:=kk) oM;omega)
  refine W_seq (q2 (pe 2 Z (lN Z (pe 1 Z (q3 ?_)))))
  refine W_cond Z ?_ ?_
  ·intro hc2
   try simp only[nrm]at hc2
   refine W_skip (N_K (W_seq (W_block (q2 (pe 3 Z (xr H Z2 (w_markText_c _ _ oM) ?_))))));intro _ H
   obtain⟨z4,hz4⟩:∃z,xs[i]? = some z:=⟨_,List.getElem?_eq_getElem aN⟩
   obtain⟨_,_,_,_,hF4,_,hE4,_,hput4,hpu04⟩:=(hchk1_0).focus hz4
   rw[hF4]at H
   refine o_index_F 0 H i Z underlying31 sizeOf109 Z Z Z Z aN ?_;intro _ hba4;cases hba4
   obtain⟨_,_,_,rfl,hi4,ho4⟩:=hE4;have hy_hi4:_≤16777216:=hi4
   have hbk4:ChkF itemO 3 _ (xs.set i z4) _:=hpu04 _ z4 (show itemO _ _ _ from⟨_,_,_,rfl,hi4,ho4⟩)
   have hsame4:xs.set i z4=xs:=Fw.set_same hz4;rw[hsame4]at hbk4
   have hat:=half_at hxs hz4 hi;have hcl:=cnt_le (c:=cItem) hat
   have hch:cItem z4=2+cnt cI z4.ids:=rfl
   refine fA 0 Z ?_
   have hcl5:=(hbk4).length
   have hlt5:i<xs.length:=(List.getElem?_eq_some_iff.1 hz4).1
   try simp only[length_setCs,List.length_set]at hcl5
   try simp only[List.length_set]at hlt5
   refine o_store_A 0 H sizeOf9 Z Z Z Z Z (by simp only[vc,List.length_cons,List.length_nil,length_setCs];omega) ?_;intro _ H
   have hchk5:=hput4 _ ⟨mtext kk,z4.dir,z4.ids⟩ 0 [_] (by simp) (show itemO _ _ _ from⟨_,_,_,rfl,(by (first|assumption|(refine Sp.l5Parent_lim ?_;assumption)|(simp;done)|(simp;omega)|omega)),ho4⟩)
   refine q1 (mV Z (aD Z2 (aG Z (q1 (pe 3 Z (o_rem Z Z Z oM oM (pe 1 Z ?_)))))))
   obtain⟨z7,hz7⟩:∃z,(xs.set i ⟨mtext kk,z4.dir,z4.ids⟩)[i]? = some z:=⟨_,List.getElem?_eq_getElem aN⟩
   obtain⟨_,_,_,_,hF7,_,hE7,_,hput7,hpu07⟩:=(hchk5).focus hz7
   rw[hF7]at H
   refine o_index_F 0 H i Z underlying31 sizeOf109 Z Z Z Z aN ?_;intro _ hba7;cases hba7
   obtain⟨_,_,_,rfl,hi7,ho7⟩:=hE7;have hy_hi7:_≤16777216:=hi7
   have hbk7:ChkF itemO 3 _ ((xs.set i ⟨mtext kk,z4.dir,z4.ids⟩).set i z7) _:=hpu07 _ z7 (show itemO _ _ _ from⟨_,_,_,rfl,hi7,ho7⟩)
   have hsame7:(xs.set i ⟨mtext kk,z4.dir,z4.ids⟩).set i z7=(xs.set i ⟨mtext kk,z4.dir,z4.ids⟩):=Fw.set_same hz7;rw[hsame7]at hbk7
   have hze7:=Fw.set_at hz7
   have hzb7:z7.ids=z4.ids:=by simp only[hze7]
   have hzc7:cnt cI z7.ids=cnt cI z4.ids:=by rw[hzb7]
   refine fA 1 Z ?_
   have hcl8:=(hbk7).length
   have hlt8:i<(xs.set i ⟨mtext kk,z4.dir,z4.ids⟩).length:=(List.getElem?_eq_some_iff.1 hz7).1
   try simp only[length_setCs,List.length_set]at hcl8
   try simp only[List.length_set]at hlt8
   refine o_store_A 0 H sizeOf4 Z Z Z Z Z (by simp only[vc,List.length_cons,List.length_nil,length_setCs];omega) ?_;intro _ H
   have hchk8:=hput7 _ ⟨z7.path,decide ((kk+1) % 3=0),z7.ids⟩ 1 [_] (by simp) (show itemO _ _ _ from⟨_,_,_,rfl,hi7,ho7⟩)
   refine q1 (mV Z (aD Z2 (aG Z (q3 (W_region (pe 2 Z ?_))))))
   obtain⟨z10,hz10⟩:∃z,((xs.set i ⟨mtext kk,z4.dir,z4.ids⟩).set i ⟨z7.path,decide ((kk+1) % 3=0),z7.ids⟩)[i]? = some z:=⟨_,List.getElem?_eq_getElem aN⟩
   obtain⟨_,P10,_,Q10,hF10,_,hE10,hg10,_,hpu010⟩:=(hchk8).focus hz10
   rw[hF10]at H
   refine o_index_F 0 H i Z underlying31 sizeOf109 Z Z Z Z aN ?_;intro _ hba10;cases hba10
   obtain⟨_,_,_,rfl,hi10,ho10⟩:=hE10;have hy_hi10:_≤16777216:=hi10
   have hbk10:ChkF itemO 3 _ (((xs.set i ⟨mtext kk,z4.dir,z4.ids⟩).set i ⟨z7.path,decide ((kk+1) % 3=0),z7.ids⟩).set i z10) _:=hpu010 _ z10 (show itemO _ _ _ from⟨_,_,_,rfl,hi10,ho10⟩)
   have hsame10:((xs.set i ⟨mtext kk,z4.dir,z4.ids⟩).set i ⟨z7.path,decide ((kk+1) % 3=0),z7.ids⟩).set i z10=((xs.set i ⟨mtext kk,z4.dir,z4.ids⟩).set i ⟨z7.path,decide ((kk+1) % 3=0),z7.ids⟩):=Fw.set_same hz10;rw[hsame10]at hbk10
   have hze10:=Fw.set_at hz10
   have hzb10:z10.ids=z4.ids:=by simp only[hze10,hze7]
   have hzc10:cnt cI z10.ids=cnt cI z4.ids:=by rw[hzb10]
   refine fA 2 Z (o_load_A 0 H isAgg92 Z Z Z (hg10 2 _ Z) (mV Z ?_))
   have H:=H.tF 1
   have H:=H.outFi
   refine xc Z2 (w_markIntS_c _ _ H.sub _ _ _ ho10 _ H.lent1 oO) ?_
   rintro _ _ ⟨_,_,_,rfl,H11',⟨F11,rfl,rfl,hO11⟩⟩
   have hle1:=hle1.trans H11'.le
   have H:=H.borrow1 H11'
   refine⟨_,Z,?_⟩
   have H:=H.tF 2
   have H:=H.tF 2
   have H:=H.tF 2
   have H:=H.inFi
   have hcb1:=hpu010 F11 ⟨z10.path,z10.dir,mks mI cI (kk+1+1) z10.ids⟩ (show itemO _ _ _ from⟨_,_,_,rfl,hi10,hO11⟩)
   refine aG Z (R_nil (N_B (N_K (W_region (mV Z (aD Z2 (aG Z (R_nil ?_))))))))
   have H:=H.tF 1
   refine N_lp (hJ:=⟨_,_,_,(((xs.set i ⟨mtext kk,z4.dir,z4.ids⟩).set i ⟨z7.path,decide ((kk+1) % 3=0),z7.ids⟩).set i ⟨z10.path,z10.dir,mks mI cI (kk+1+1) z10.ids⟩),(P10++(F11++Q10)),i+1,kk+1+1+(cnt cI z10.ids:Int),_,Z,hle1,H,?inv,Z⟩) (hm:=?hm)
   case hm=>omega
   case inv=>exact⟨hcb1,aN,(by exact⟨by omega,by (rw[cnt_succ hat];omega),(by (subst hze10;subst hze7;simp only[List.set_set];exact half_step hxs hz4 hi (by (rw[←hkk];rfl)))),hv⟩)⟩
  intro hc2'
  try simp only[nrm]at hc2'
  refine W_exit (N_K_exit (N_LP_exit (N_B_same (N_K (q2 (pe 2 Z (q3 (W_ret (rt1 results39 Z ?_)))))))))
  have hie:i=a.length:=by omega
  have hxx:xs=mks mItem cItem k a:=by (rw[hxs];exact half_end hie)
  have hce:=cnt_end (c:=cItem) hie
  have H:=H.tF 1
  have H:=H.tF 1
  obtain⟨_,H,hOw2⟩:=H.ownF hchk1_0 aN aN
  exact H.retM ⟨_,congrArg (Value.int .i64) (by (rw[hkk,hce])),rfl,hxx▸hv▸⟨_,hOw2⟩⟩
theorem w_markSnapS_c (w0:World)(G0:PH)(hG:PSub G0 w0)(Fa:Fr)(va:Value)(a:List (BSnap))(hOa:OSn Fa va a)(k:Int)(hLent:Lent w0 G0 [frag Fa])(hb:0≤k∧k+(cnt cSnap a:Int)≤2199023255552) :
  Calls Tryz.prog 40 #[va,.int .i64 k] w0 (RetM w0 G0 (fps [frag Fa]) (fun G' v Bs=>∃(F':Fr),v= .int .i64 (k+(cnt cSnap a:Int))∧Bs=[frag F']∧OSn F' va (mks mSnap cSnap k a))):=by
 obtain⟨ea,hPa⟩:=hOa;have hlima:a.length≤1099511627776:=hPa.1;obtain⟨aa,ka,rfl⟩:=OwnS.shape hPa
 have H:Hp w0 G0 (fps [frag Fa]) w0 G0 [frag Fa]:=hLent.hp
 obtain⟨_,Ra,H,hcka⟩:=H.openF hPa
 refine calls_of_W (l:=[.slice aa a.length ka,.int .i64 k]) func40 Z ntmps40 Z (q2 (aG Z (q3 (W_seq (q2 (aG Z (q3 (W_block ?_))))))))
 refine W_lp (hf:=(Sub.cons (t:=4) Z Sub.nil)) (J:=fun M w m=>∃(v:Value) (n:Nat) (cs:List Value) (xs:List (BSnap)) (F:Fr) (i:Nat) (kk:Int) (G:PH),M=[(5,.int .i64 (i:Int)),(1,.int .i64 kk),(0,v)]∧PLe G0 G∧Hp w0 G0 (fps [frag Fa]) w G [acc ea 2 v n cs,frag F]∧(ChkF snapO 2 cs xs F∧n=xs.length∧i≤a.length∧kk=k+(cnt cSnap (a.take i):Int)∧xs=mks mSnap cSnap k (a.take i)++a.drop i∧v= .slice aa a.length ka)∧m=(a.length-i)) (h0:=⟨_,_,_,a,Ra,0,k,_,Z,PLe.refl _,H,?inv,Z⟩) (round:=?round)
 case inv=>exact⟨hcka,by first|rfl|simp|(simp;omega)|omega,(by simp[cnt,mks])⟩
 case round =>
  rintro _ _ _ ⟨v,n,cs,xs,F,i,kk,_,rfl,hle1,H,hinv1,rfl⟩
  obtain⟨hchk1_0,_,hinv1⟩:=hinv1
  obtain⟨_,_,rfl⟩:=H.accShape (k:=0) rfl
  obtain⟨hi,hkk,hxs,hv⟩:=hinv1;have hxl:xs.length=a.length:=(by (rw[hxs];exact half_len hi));have hctk:=cnt_tk (c:=cSnap) a i;have hmt:(mtext kk).length≤16777216:=(by have h9:=mtext_len (k:=kk) oM;omega)
  refine W_seq (q2 (pe 2 Z (lN Z (pe 1 Z (q3 ?_)))))
  refine W_cond Z ?_ ?_
  ·intro hc2
   try simp only[nrm]at hc2
   refine W_skip (N_K (W_seq (W_block (q2 (pe 3 Z (xr H Z2 (w_markText_c _ _ oM) ?_))))));intro _ H
   obtain⟨z4,hz4⟩:∃z,xs[i]? = some z:=⟨_,List.getElem?_eq_getElem aN⟩
   obtain⟨_,_,_,_,hF4,_,hE4,_,hput4,hpu04⟩:=(hchk1_0).focus hz4
   rw[hF4]at H
   refine o_index_F 0 H i Z underlying32 sizeOf106 Z Z Z Z aN ?_;intro _ hba4;cases hba4
   obtain⟨_,_,_,rfl,hi4,ho4⟩:=hE4;have hy_hi4:_≤16777216:=hi4
   have hbk4:ChkF snapO 2 _ (xs.set i z4) _:=hpu04 _ z4 (show snapO _ _ _ from⟨_,_,_,rfl,hi4,ho4⟩)
   have hsame4:xs.set i z4=xs:=Fw.set_same hz4;rw[hsame4]at hbk4
   have hat:=half_at hxs hz4 hi;have hcl:=cnt_le (c:=cSnap) hat
   have hch:cSnap z4=1+cnt cItem z4.tree:=rfl
   refine fA 0 Z ?_
   have hcl5:=(hbk4).length
   have hlt5:i<xs.length:=(List.getElem?_eq_some_iff.1 hz4).1
   try simp only[length_setCs,List.length_set]at hcl5
   try simp only[List.length_set]at hlt5
   refine o_store_A 0 H sizeOf9 Z Z Z Z Z (by simp only[vc,List.length_cons,List.length_nil,length_setCs];omega) ?_;intro _ H
   have hchk5:=hput4 _ ⟨mtext kk,z4.tree⟩ 0 [_] (by simp) (show snapO _ _ _ from⟨_,_,_,rfl,(by (first|assumption|(refine Sp.l5Parent_lim ?_;assumption)|(simp;done)|(simp;omega)|omega)),ho4⟩)
   refine q1 (mV Z (aD Z2 (aG Z (q3 (W_region (pe 2 Z ?_))))))
   obtain⟨z7,hz7⟩:∃z,(xs.set i ⟨mtext kk,z4.tree⟩)[i]? = some z:=⟨_,List.getElem?_eq_getElem aN⟩
   obtain⟨_,P7,_,Q7,hF7,_,hE7,hg7,_,hpu07⟩:=(hchk5).focus hz7
   rw[hF7]at H
   refine o_index_F 0 H i Z underlying32 sizeOf106 Z Z Z Z aN ?_;intro _ hba7;cases hba7
   obtain⟨_,_,_,rfl,hi7,ho7⟩:=hE7;have hy_hi7:_≤16777216:=hi7
   have hbk7:ChkF snapO 2 _ ((xs.set i ⟨mtext kk,z4.tree⟩).set i z7) _:=hpu07 _ z7 (show snapO _ _ _ from⟨_,_,_,rfl,hi7,ho7⟩)
   have hsame7:(xs.set i ⟨mtext kk,z4.tree⟩).set i z7=(xs.set i ⟨mtext kk,z4.tree⟩):=Fw.set_same hz7;rw[hsame7]at hbk7
   have hze7:=Fw.set_at hz7
   have hzb7:z7.tree=z4.tree:=by simp only[hze7]
   have hzc7:cnt cItem z7.tree=cnt cItem z4.tree:=by rw[hzb7]
   refine fA 1 Z (o_load_A 0 H isAgg31 Z Z Z (hg7 1 _ Z) (mV Z ?_))
   have H:=H.tF 1
   have H:=H.outFi
   refine xc Z2 (w_markItemS_c _ _ H.sub _ _ _ ho7 _ H.lent1 oO) ?_
   rintro _ _ ⟨_,_,_,rfl,H8',⟨F8,rfl,rfl,hO8⟩⟩
   have hle1:=hle1.trans H8'.le
   have H:=H.borrow1 H8'
   refine⟨_,Z,?_⟩
   have H:=H.tF 2
   have H:=H.tF 2
   have H:=H.tF 2
   have H:=H.inFi
   have hcb1:=hpu07 F8 ⟨z7.name,mks mItem cItem (kk+1) z7.tree⟩ (show snapO _ _ _ from⟨_,_,_,rfl,hi7,hO8⟩)
   refine aG Z (R_nil (N_B (N_K (W_region (mV Z (aD Z2 (aG Z (R_nil ?_))))))))
   have H:=H.tF 1
   refine N_lp (hJ:=⟨_,_,_,((xs.set i ⟨mtext kk,z4.tree⟩).set i ⟨z7.name,mks mItem cItem (kk+1) z7.tree⟩),(P7++(F8++Q7)),i+1,kk+1+(cnt cItem z7.tree:Int),_,Z,hle1,H,?inv,Z⟩) (hm:=?hm)
   case hm=>omega
   case inv=>exact⟨hcb1,aN,(by exact⟨by omega,by (rw[cnt_succ hat];omega),(by (subst hze7;simp only[List.set_set];exact half_step hxs hz4 hi (by (rw[←hkk];rfl)))),hv⟩)⟩
  intro hc2'
  try simp only[nrm]at hc2'
  refine W_exit (N_K_exit (N_LP_exit (N_B_same (N_K (q2 (pe 2 Z (q3 (W_ret (rt1 results40 Z ?_)))))))))
  have hie:i=a.length:=by omega
  have hxx:xs=mks mSnap cSnap k a:=by (rw[hxs];exact half_end hie)
  have hce:=cnt_end (c:=cSnap) hie
  have H:=H.tF 1
  have H:=H.tF 1
  obtain⟨_,H,hOw2⟩:=H.ownF hchk1_0 aN aN
  exact H.retM ⟨_,congrArg (Value.int .i64) (by (rw[hkk,hce])),rfl,hxx▸hv▸⟨_,hOw2⟩⟩
theorem w_heldIntS_c (w0:World)(G0:PH)(hG:PSub G0 w0)(vb:Value)(b:List (Int))(hb:RdI G0 vb b)(k:Int)(a:List (Int))(hab:b=mks mI cI k a)(hb2:0≤k∧k+(cnt cI a:Int)≤2199023255552) :
  Calls Tryz.prog 76 #[vb,.int .i64 k] w0 (Rets w0 (.int .i64 (k+(cnt cI a:Int)))):=by
 obtain⟨ab,kb,rfl⟩:=hb.shape
 have hlimb:b.length≤1099511627776:=hb.lim
 have hle:b.length=a.length:=by (rw[hab];exact mks_len _ _)
 have H:=Hp.init hG
 refine calls_of_W (l:=[.slice ab b.length kb,.int .i64 k]) func76 Z ntmps76 Z (q2 (aG Z (q3 (W_seq (q2 (aG Z (q3 (W_block ?_))))))))
 refine W_lp (hf:=(Sub.cons (t:=0) Z Sub.nil)) (J:=fun M w m=>∃(i:Nat) (kk:Int) (G:PH),M=[(5,.int .i64 (i:Int)),(1,.int .i64 kk)]∧PLe G0 G∧Hp w0 G0 [] w G []∧(i≤a.length∧kk=k+(cnt cI (a.take i):Int))∧m=(a.length-i)) (h0:=⟨0,k,_,Z,PLe.refl _,H,?inv,Z⟩) (round:=?round)
 case inv=>simp[cnt]
 case round =>
  rintro _ _ _ ⟨i,kk,_,rfl,hle1,H,hinv1,rfl⟩
  have hb:=hb.up hle1
  obtain⟨_,hkk⟩:=hinv1;have hctk:=cnt_tk (c:=cI) a i
  refine W_seq (q2 (pe 2 Z (lN Z (pe 1 Z (q3 ?_)))))
  refine W_cond Z ?_ ?_
  ·intro hc2
   try simp only[nrm]at hc2
   refine W_skip (N_K (W_seq (W_block (W_seq (q2 (pe 2 Z (iP i hb Z3 Z ?_)))))));intro _ _ z3 _ hz3 hE3 hrow3
   obtain⟨rfl,_⟩:=hE3
   obtain⟨x,hx⟩:∃x,a[i]? = some x:=⟨_,List.getElem?_eq_getElem oM⟩
   have hzm:=mks_get hx (hab▸hz3);rw[←hkk]at hzm;have hcl:=cnt_le (c:=cI) hx
   have hzi:z3=kk:=hzm;have hch:cI x=1:=rfl
   refine lP H hrow3 0 Z2 (pe 2 Z (q3 ?_))
   refine W_cond Z ?_ ?_
   ·intro hc4
    try simp only[nrm]at hc4
    refine q2 (aG Z (q3 (W_ret (N_K_ret (N_B_ret (N_K_ret (N_LP_ret (N_B_ret (N_K_ret (rt1 results76 Z ?_))))))))))
    exact absurd (show False from by first|omega|(exact hc4 (by (rw[hzm];first|rfl|(rw[←hkk];rfl))))|(have h9:=hc4;rw[hzm]at h9;simp[mI]at h9;done)) id
   intro hc4'
   try simp only[nrm]at hc4'
   refine W_skip (N_K (W_region (mV Z (aD Z2 (aG Z (R_nil (N_B (N_K (W_region (mV Z (aD Z2 (aG Z (R_nil ?_)))))))))))))
   refine N_lp (hJ:=⟨i+1,kk+1,_,Z,hle1,H,?inv,Z⟩) (hm:=?hm)
   case hm=>omega
   case inv=>exact⟨by omega,by (rw[cnt_succ hx];omega)⟩
  intro hc2'
  try simp only[nrm]at hc2'
  refine W_exit (N_K_exit (N_LP_exit (N_B_same (N_K (q2 (pe 2 Z (q3 (W_ret (rt1 results76 Z ?_)))))))))
  have hie:i=a.length:=by omega
  have hce:=cnt_end (c:=cI) hie
  exact H.rets (congrArg (Value.int .i64) (by (rw[hkk,hce])))
theorem w_heldHeldS_c (w0:World)(G0:PH)(hG:PSub G0 w0)(vb:Value)(b:List (BHeld))(hb:RdH G0 vb b)(k:Int)(a:List (BHeld))(hab:b=mks mHeld cHeld k a)(hb2:0≤k∧k+(cnt cHeld a:Int)≤2199023255552) :
  Calls Tryz.prog 42 #[vb,.int .i64 k] w0 (Rets w0 (.int .i64 (k+(cnt cHeld a:Int)))):=by
 obtain⟨ab,kb,rfl⟩:=hb.shape
 have hlimb:b.length≤1099511627776:=hb.lim
 have hle:b.length=a.length:=by (rw[hab];exact mks_len _ _)
 have H:=Hp.init hG
 refine calls_of_W (l:=[.slice ab b.length kb,.int .i64 k]) func42 Z ntmps42 Z (q2 (aG Z (q3 (W_seq (q2 (aG Z (q3 (W_block ?_))))))))
 refine W_lp (hf:=(Sub.cons (t:=0) Z Sub.nil)) (J:=fun M w m=>∃(i:Nat) (kk:Int) (G:PH),M=[(5,.int .i64 (i:Int)),(1,.int .i64 kk)]∧PLe G0 G∧Hp w0 G0 [] w G []∧(i≤a.length∧kk=k+(cnt cHeld (a.take i):Int))∧m=(a.length-i)) (h0:=⟨0,k,_,Z,PLe.refl _,H,?inv,Z⟩) (round:=?round)
 case inv=>simp[cnt]
 case round =>
  rintro _ _ _ ⟨i,kk,_,rfl,hle1,H,hinv1,rfl⟩
  have hb:=hb.up hle1
  obtain⟨_,hkk⟩:=hinv1;have hctk:=cnt_tk (c:=cHeld) a i
  refine W_seq (q2 (pe 2 Z (lN Z (pe 1 Z (q3 ?_)))))
  refine W_cond Z ?_ ?_
  ·intro hc2
   try simp only[nrm]at hc2
   refine W_skip (N_K (W_seq (W_block (W_seq (q2 (pe 2 Z (iP i hb Z3 Z ?_)))))));intro _ _ z3 _ hz3 hE3 hrow3
   obtain⟨_,_,_,rfl,_,_,_,_,_⟩:=ox hE3
   obtain⟨x,hx⟩:∃x,a[i]? = some x:=⟨_,List.getElem?_eq_getElem oM⟩
   have hzm:=mks_get hx (hab▸hz3);rw[←hkk]at hzm;have hcl:=cnt_le (c:=cHeld) hx
   have hch:cHeld x=2+cnt cI x.bytes:=rfl
   have hzi:z3.id=kk:=by (rw[hzm];rfl)
   have hzu:z3.uses=kk+1+(cnt cI x.bytes:Int):=by (rw[hzm];rfl)
   refine fA 0 Z (lP H hrow3 0 Z2 (pe 2 Z (q3 ?_)))
   refine W_cond Z ?_ ?_
   ·intro hc4
    try simp only[nrm]at hc4
    refine q2 (aG Z (q3 (W_ret (N_K_ret (N_B_ret (N_K_ret (N_LP_ret (N_B_ret (N_K_ret (rt1 results42 Z ?_))))))))))
    exact absurd (show False from by first|omega|(exact hc4 (by (rw[hzm];first|rfl|(rw[←hkk];rfl))))|(have h9:=hc4;rw[hzm]at h9;simp[mHeld]at h9;done)) id
   intro hc4'
   try simp only[nrm]at hc4'
   refine W_skip (N_K (q2 (mV Z (aD Z2 (aG Z (q1 (pe 2 Z (iP i hb Z3 Z ?_))))))));intro _ _ z6 _ hz6 hE6 hrow6
   obtain⟨_,_,_,rfl,_,hr6,_,_,_⟩:=ox hE6
   have hzz6:z3=z6:=Option.some.inj (hz3.symm.trans hz6)
   subst hzz6
   refine fA 1 Z (lP H hrow6 1 Z2 (mV Z ?_))
   refine xr H Z2 (w_heldIntS_c _ _ H.sub _ _ hr6 _ x.bytes (by (rw[hzm];rfl)) oO) ?_;intro _ H
   refine aG Z (q3 (W_seq (q2 (pe 2 Z (q3 ?_)))))
   refine W_cond Z ?_ ?_
   ·intro hc8
    try simp only[nrm]at hc8
    refine q2 (aG Z (q3 (W_ret (N_K_ret (N_B_ret (N_K_ret (N_LP_ret (N_B_ret (N_K_ret (rt1 results42 Z ?_))))))))))
    exact absurd (show False from by first|omega|(exact hc8 (by (rw[hzm];first|rfl|(rw[←hkk];rfl))))|(have h9:=hc8;rw[hzm]at h9;simp[mHeld]at h9;done)) id
   intro hc8'
   try simp only[nrm]at hc8'
   refine W_skip (N_K (W_seq (q2 (pe 2 Z (iP i hb Z3 Z ?_)))));intro _ _ z9 _ hz9 hE9 hrow9
   obtain⟨_,_,_,rfl,_,_,_,_,_⟩:=ox hE9
   have hzz9:z3=z9:=Option.some.inj (hz3.symm.trans hz9)
   subst hzz9
   refine fA 2 Z (lP H hrow9 2 Z2 (pe 2 Z (q3 ?_)))
   refine W_cond Z ?_ ?_
   ·intro hc10
    try simp only[nrm]at hc10
    refine q2 (aG Z (q3 (W_ret (N_K_ret (N_B_ret (N_K_ret (N_LP_ret (N_B_ret (N_K_ret (rt1 results42 Z ?_))))))))))
    exact absurd (show False from by first|omega|(exact hc10 (by (rw[hzm];first|rfl|(rw[←hkk];rfl))))|(have h9:=hc10;rw[hzm]at h9;simp[mHeld]at h9;done)) id
   intro hc10'
   try simp only[nrm]at hc10'
   refine W_skip (N_K (W_region (mV Z (aD Z2 (aG Z (R_nil (N_B (N_K (W_region (mV Z (aD Z2 (aG Z (R_nil ?_)))))))))))))
   refine N_lp (hJ:=⟨i+1,kk+1+(cnt cI x.bytes:Int)+1,_,Z,hle1,H,?inv,Z⟩) (hm:=?hm)
   case hm=>omega
   case inv=>exact⟨by omega,by (rw[cnt_succ hx];omega)⟩
  intro hc2'
  try simp only[nrm]at hc2'
  refine W_exit (N_K_exit (N_LP_exit (N_B_same (N_K (q2 (pe 2 Z (q3 (W_ret (rt1 results42 Z ?_)))))))))
  have hie:i=a.length:=by omega
  have hce:=cnt_end (c:=cHeld) hie
  exact H.rets (congrArg (Value.int .i64) (by (rw[hkk,hce])))
theorem w_heldItemS_c (w0:World)(G0:PH)(hG:PSub G0 w0)(vb:Value)(b:List (BItem))(hb:RdItems G0 vb b)(k:Int)(a:List (BItem))(hab:b=mks mItem cItem k a)(hb2:0≤k∧k+(cnt cItem a:Int)≤2199023255552) :
  Calls Tryz.prog 43 #[vb,.int .i64 k] w0 (Rets w0 (.int .i64 (k+(cnt cItem a:Int)))):=by
 obtain⟨ab,kb,rfl⟩:=hb.shape
 have hlimb:b.length≤1099511627776:=hb.lim
 have hle:b.length=a.length:=by (rw[hab];exact mks_len _ _)
 have H:=Hp.init hG
 refine calls_of_W (l:=[.slice ab b.length kb,.int .i64 k]) func43 Z ntmps43 Z (q2 (aG Z (q3 (W_seq (q2 (aG Z (q3 (W_block ?_))))))))
 refine W_lp (hf:=(Sub.cons (t:=0) Z Sub.nil)) (J:=fun M w m=>∃(i:Nat) (kk:Int) (G:PH),M=[(5,.int .i64 (i:Int)),(1,.int .i64 kk)]∧PLe G0 G∧Hp w0 G0 [] w G []∧(i≤a.length∧kk=k+(cnt cItem (a.take i):Int))∧m=(a.length-i)) (h0:=⟨0,k,_,Z,PLe.refl _,H,?inv,Z⟩) (round:=?round)
 case inv=>simp[cnt]
 case round =>
  rintro _ _ _ ⟨i,kk,G1,rfl,hle1,H,hinv1,rfl⟩
  have hb:=hb.up hle1
  obtain⟨_,hkk⟩:=hinv1;have hctk:=cnt_tk (c:=cItem) a i
  refine W_seq (q2 (pe 2 Z (lN Z (pe 1 Z (q3 ?_)))))
  refine W_cond Z ?_ ?_
  ·intro hc2
   try simp only[nrm]at hc2
   refine W_skip (N_K (W_seq (W_block (W_seq (W_seq (W_drawK [] 8 H kR Z ?_))))));intro _ H;have hd3:=PLe.refl G1
   refine dE 0 Z2 (dE 1 Z2 ?_)
   have hl4:=hb.len
   obtain⟨_,_,z4,q4,ha4,hz4,hq4,hE4,hrow4,_⟩:=hb.at (i:=i) oM
   clear hq4
   obtain⟨_,_,_,rfl,_,_,_,_⟩:=ox hE4
   obtain⟨x,hx⟩:∃x,a[i]? = some x:=⟨_,List.getElem?_eq_getElem oM⟩
   have hzm:=mks_get hx (hab▸hz4);rw[←hkk]at hzm;have hcl:=cnt_le (c:=cItem) hx
   have hch:cItem x=2+cnt cI x.ids:=rfl
   refine dI 2 3 i ha4 Z3 Z (dF 3 0 Z2 (dP 4 hrow4 0 Z3 (dE 5 Z2 (r1 6 Z (xr H Z2 (w_markText_c _ _ oM) ?_)))));intro _ H
   refine q4 H hd3 (RD_t 7 Z kR Z (fun _ hK=>v_sneq Z Z) (rz (N_K ?_)))
   refine W_cond Z ?_ ?_
   ·intro hc6
    try simp only[nrm]at hc6
    refine q2 (aG Z (q3 (W_ret (N_K_ret (N_B_ret (N_K_ret (N_LP_ret (N_B_ret (N_K_ret (rt1 results43 Z ?_))))))))))
    exact absurd (show False from by first|omega|(exact hc6 (by (rw[hzm];first|rfl|(rw[←hkk];rfl))))|(have h9:=hc6;rw[hzm]at h9;simp[mItem]at h9;done)) id
   intro hc6'
   try simp only[nrm]at hc6'
   refine W_skip (N_K (q2 (mV Z (aD Z2 (aG Z (q3 (W_seq (q2 (pe 2 Z (iP i hb Z3 Z ?_))))))))));intro _ _ z8 _ hz8 hE8 hrow8
   obtain⟨_,_,_,rfl,_,_,_,_⟩:=ox hE8
   have hzz8:z4=z8:=Option.some.inj (hz4.symm.trans hz8)
   subst hzz8
   refine fA 1 Z (lP H hrow8 1 Z2 (mV Z (o_rem Z Z Z oM oM (pe 1 Z (o_bneq underlying4 Z Z Z (q3 ?_))))))
   refine W_cond Z ?_ ?_
   ·intro hc9
    try simp only[nrm]at hc9
    refine q2 (aG Z (q3 (W_ret (N_K_ret (N_B_ret (N_K_ret (N_LP_ret (N_B_ret (N_K_ret (rt1 results43 Z ?_))))))))))
    exact absurd (show False from by first|omega|(exact hc9 (by (rw[hzm];first|rfl|(rw[←hkk];rfl))))|(have h9:=hc9;rw[hzm]at h9;simp[mItem]at h9;done)) id
   intro hc9'
   try simp only[nrm]at hc9'
   refine W_skip (N_K (q2 (mV Z (aD Z2 (aG Z (q1 (pe 2 Z (iP i hb Z3 Z ?_))))))));intro _ _ z11 _ hz11 hE11 hrow11
   obtain⟨_,_,_,rfl,_,hr11,_,_⟩:=ox hE11
   have hzz11:z4=z11:=Option.some.inj (hz4.symm.trans hz11)
   subst hzz11
   refine fA 2 Z (lP H hrow11 2 Z2 (mV Z ?_))
   refine xr H Z2 (w_heldIntS_c _ _ H.sub _ _ hr11 _ x.ids (by (rw[hzm];rfl)) oO) ?_;intro _ H
   refine aG Z (q1 (pe 2 Z (q3 ?_)))
   refine W_cond Z ?_ ?_
   ·intro hc13
    try simp only[nrm]at hc13
    refine q2 (aG Z (q3 (W_ret (N_B_ret (N_K_ret (N_LP_ret (N_B_ret (N_K_ret (rt1 results43 Z ?_)))))))))
    exact absurd (show False from by first|omega|(exact hc13 (by (rw[hzm];first|rfl|(rw[←hkk];rfl))))|(have h9:=hc13;rw[hzm]at h9;simp[mItem]at h9;done)) id
   intro hc13'
   try simp only[nrm]at hc13'
   refine W_skip (N_B (N_K (W_region (mV Z (aD Z2 (aG Z (R_nil ?_)))))))
   refine N_lp (hJ:=⟨i+1,kk+1+1+(cnt cI x.ids:Int),_,Z,hle1,H,?inv,Z⟩) (hm:=?hm)
   case hm=>omega
   case inv=>exact⟨by omega,by (rw[cnt_succ hx];omega)⟩
  intro hc2'
  try simp only[nrm]at hc2'
  refine W_exit (N_K_exit (N_LP_exit (N_B_same (N_K (q2 (pe 2 Z (q3 (W_ret (rt1 results43 Z ?_)))))))))
  have hie:i=a.length:=by omega
  have hce:=cnt_end (c:=cItem) hie
  exact H.rets (congrArg (Value.int .i64) (by (rw[hkk,hce])))
theorem w_heldSnapS_c (w0:World)(G0:PH)(hG:PSub G0 w0)(vb:Value)(b:List (BSnap))(hb:RdSn G0 vb b)(k:Int)(a:List (BSnap))(hab:b=mks mSnap cSnap k a)(hb2:0≤k∧k+(cnt cSnap a:Int)≤2199023255552) :
  Calls Tryz.prog 44 #[vb,.int .i64 k] w0 (Rets w0 (.int .i64 (k+(cnt cSnap a:Int)))):=by
 obtain⟨ab,kb,rfl⟩:=hb.shape
 have hlimb:b.length≤1099511627776:=hb.lim
 have hle:b.length=a.length:=by (rw[hab];exact mks_len _ _)
 have H:=Hp.init hG
 refine calls_of_W (l:=[.slice ab b.length kb,.int .i64 k]) func44 Z ntmps44 Z (q2 (aG Z (q3 (W_seq (q2 (aG Z (q3 (W_block ?_))))))))
 refine W_lp (hf:=(Sub.cons (t:=0) Z Sub.nil)) (J:=fun M w m=>∃(i:Nat) (kk:Int) (G:PH),M=[(5,.int .i64 (i:Int)),(1,.int .i64 kk)]∧PLe G0 G∧Hp w0 G0 [] w G []∧(i≤a.length∧kk=k+(cnt cSnap (a.take i):Int))∧m=(a.length-i)) (h0:=⟨0,k,_,Z,PLe.refl _,H,?inv,Z⟩) (round:=?round)
 case inv=>simp[cnt]
 case round =>
  rintro _ _ _ ⟨i,kk,G1,rfl,hle1,H,hinv1,rfl⟩
  have hb:=hb.up hle1
  obtain⟨_,hkk⟩:=hinv1;have hctk:=cnt_tk (c:=cSnap) a i
  refine W_seq (q2 (pe 2 Z (lN Z (pe 1 Z (q3 ?_)))))
  refine W_cond Z ?_ ?_
  ·intro hc2
   try simp only[nrm]at hc2
   refine W_skip (N_K (W_seq (W_block (W_seq (W_seq (W_drawK [] 8 H kR Z ?_))))));intro _ H;have hd3:=PLe.refl G1
   refine dE 0 Z2 (dE 1 Z2 ?_)
   have hl4:=hb.len
   obtain⟨_,_,z4,q4,ha4,hz4,hq4,hE4,hrow4,_⟩:=hb.at (i:=i) oM
   clear hq4
   obtain⟨_,_,_,rfl,_,_,_,_⟩:=ox hE4
   obtain⟨x,hx⟩:∃x,a[i]? = some x:=⟨_,List.getElem?_eq_getElem oM⟩
   have hzm:=mks_get hx (hab▸hz4);rw[←hkk]at hzm;have hcl:=cnt_le (c:=cSnap) hx
   have hch:cSnap x=1+cnt cItem x.tree:=rfl
   refine dI 2 2 i ha4 Z3 Z (dF 3 0 Z2 (dP 4 hrow4 0 Z3 (dE 5 Z2 (r1 6 Z (xr H Z2 (w_markText_c _ _ oM) ?_)))));intro _ H
   refine q4 H hd3 (RD_t 7 Z kR Z (fun _ hK=>v_sneq Z Z) (rz (N_K ?_)))
   refine W_cond Z ?_ ?_
   ·intro hc6
    try simp only[nrm]at hc6
    refine q2 (aG Z (q3 (W_ret (N_K_ret (N_B_ret (N_K_ret (N_LP_ret (N_B_ret (N_K_ret (rt1 results44 Z ?_))))))))))
    exact absurd (show False from by first|omega|(exact hc6 (by (rw[hzm];first|rfl|(rw[←hkk];rfl))))|(have h9:=hc6;rw[hzm]at h9;simp[mSnap]at h9;done)) id
   intro hc6'
   try simp only[nrm]at hc6'
   refine W_skip (N_K (q2 (mV Z (aD Z2 (aG Z (q1 (pe 2 Z (iP i hb Z3 Z ?_))))))));intro _ _ z8 _ hz8 hE8 hrow8
   obtain⟨_,_,_,rfl,_,hr8,_,_⟩:=ox hE8
   have hzz8:z4=z8:=Option.some.inj (hz4.symm.trans hz8)
   subst hzz8
   refine fA 1 Z (lP H hrow8 1 Z2 (mV Z ?_))
   refine xr H Z2 (w_heldItemS_c _ _ H.sub _ _ hr8 _ x.tree (by (rw[hzm];rfl)) oO) ?_;intro _ H
   refine aG Z (q1 (pe 2 Z (q3 ?_)))
   refine W_cond Z ?_ ?_
   ·intro hc10
    try simp only[nrm]at hc10
    refine q2 (aG Z (q3 (W_ret (N_B_ret (N_K_ret (N_LP_ret (N_B_ret (N_K_ret (rt1 results44 Z ?_)))))))))
    exact absurd (show False from by first|omega|(exact hc10 (by (rw[hzm];first|rfl|(rw[←hkk];rfl))))|(have h9:=hc10;rw[hzm]at h9;simp[mSnap]at h9;done)) id
   intro hc10'
   try simp only[nrm]at hc10'
   refine W_skip (N_B (N_K (W_region (mV Z (aD Z2 (aG Z (R_nil ?_)))))))
   refine N_lp (hJ:=⟨i+1,kk+1+(cnt cItem x.tree:Int),_,Z,hle1,H,?inv,Z⟩) (hm:=?hm)
   case hm=>omega
   case inv=>exact⟨by omega,by (rw[cnt_succ hx];omega)⟩
  intro hc2'
  try simp only[nrm]at hc2'
  refine W_exit (N_K_exit (N_LP_exit (N_B_same (N_K (q2 (pe 2 Z (q3 (W_ret (rt1 results44 Z ?_)))))))))
  have hie:i=a.length:=by omega
  have hce:=cnt_end (c:=cSnap) hie
  exact H.rets (congrArg (Value.int .i64) (by (rw[hkk,hce])))
theorem w_heldDisk_c (w0:World)(G0:PH)(hG:PSub G0 w0)(cb:List Value)(b:BDisk)(hb:diskE G0 b cb)(k:Int)(a:BDisk)(hab:b=mDisk k a)(hb2:0≤k∧k+(cDisk a:Int)≤2199023255552) :
  Calls Tryz.prog 16 #[.agg cb.toArray,.int .i64 k] w0 (Rets w0 (.int .i64 (k+(cDisk a:Int)))):=by
 obtain⟨_,_,_,_,_,_,_,_,_,rfl,hr1,hr1',hr1'',⟨_,_⟩,⟨_,_⟩,_,_⟩:=ox hb
 have hcd:cDisk a=cnt cHeld a.store+cnt cItem a.tree+cnt cSnap a.snaps:=rfl
 have H:=Hp.init hG
 refine calls_of_W (l:=[_,.int .i64 k]) func16 Z ntmps16 Z (q2 (o_box H Z Z Z ?_));intro _ _ _ H
 refine aG Z (q1 (fA 0 Z (lB 0 H Z3 (mV Z ?_))))
 refine xr H Z2 (w_heldHeldS_c _ _ H.sub _ _ hr1 _ a.store (by (rw[hab];rfl)) oO) ?_;intro _ H
 refine aG Z (q3 (W_seq (q2 (pe 2 Z (q3 ?_)))))
 refine W_cond Z ?_ ?_
 ·intro hc4
  try simp only[nrm]at hc4
  refine q2 (aG Z (q3 (W_ret (N_K_ret (rt1 results16 Z ?_)))))
  first|exact H.rets (congrArg (Value.int .i64) oM)|exact absurd (show False from by omega) id
 intro hc4'
 try simp only[nrm]at hc4'
 refine W_skip (N_K (q2 (fA 1 Z (lB 0 H Z3 (mV Z ?_)))))
 refine xr H Z2 (w_heldItemS_c _ _ H.sub _ _ hr1' _ a.tree (by (rw[hab];rfl)) oO) ?_;intro _ H
 refine aG Z (q3 (W_seq (q2 (pe 2 Z (q3 ?_)))))
 refine W_cond Z ?_ ?_
 ·intro hc6
  try simp only[nrm]at hc6
  refine q2 (aG Z (q3 (W_ret (N_K_ret (rt1 results16 Z ?_)))))
  first|exact H.rets (congrArg (Value.int .i64) oM)|exact absurd (show False from by omega) id
 intro hc6'
 try simp only[nrm]at hc6'
 refine W_skip (N_K (q2 (fA 2 Z (lB 0 H Z3 (mV Z ?_)))))
 refine xr H Z2 (w_heldSnapS_c _ _ H.sub _ _ hr1'' _ a.snaps (by (rw[hab];rfl)) oO) ?_;intro _ H
 refine aG Z (q3 (W_seq (q2 (pe 2 Z (q3 ?_)))))
 refine W_cond Z ?_ ?_
 ·intro hc8
  try simp only[nrm]at hc8
  refine q2 (aG Z (q3 (W_ret (N_K_ret (rt1 results16 Z ?_)))))
  first|exact H.rets (congrArg (Value.int .i64) oM)|exact absurd (show False from by omega) id
 intro hc8'
 try simp only[nrm]at hc8'
 refine W_skip (N_K (q2 (pe 2 Z (q3 (W_ret (rt1 results16 Z ?_))))))
 first|exact H.rets (congrArg (Value.int .i64) oM)|exact absurd (show False from by omega) id
theorem w_markDisk_c (w0:World)(G0:PH)(hG:PSub G0 w0)(Fa1 Fa2 Fa3:Fr)(va1 va2 va3:Value)(a:BDisk)(hO1:OHs Fa1 va1 a.store)(hO2:OIs Fa2 va2 a.tree)(hO3:OSn Fa3 va3 a.snaps)(k:Int)(hLent:Lent w0 G0 [frag Fa1,frag Fa2,frag Fa3])(hb:0≤k∧k+(cDisk a:Int)≤2199023255552) :
  Calls Tryz.prog 14 #[.agg #[va1,va2,va3],.int .i64 k] w0 (RetM w0 G0 (fps [frag Fa1,frag Fa2,frag Fa3]) (fun G' v Bs=>∃(F1 F2 F3:Fr),v= .int .i64 (k+(cDisk a:Int))∧Bs=[frag F1,frag F2,frag F3]∧OHs F1 va1 (mDisk k a).store∧OIs F2 va2 (mDisk k a).tree∧OSn F3 va3 (mDisk k a).snaps)):=by
 obtain⟨_,p1⟩:=hO1
 obtain⟨_,_,rfl⟩:=OwnS.shape p1
 obtain⟨_,p2⟩:=hO2
 obtain⟨_,_,rfl⟩:=OwnS.shape p2
 obtain⟨_,p3⟩:=hO3
 obtain⟨_,_,rfl⟩:=OwnS.shape p3
 have hcd:cDisk a=cnt cHeld a.store+cnt cItem a.tree+cnt cSnap a.snaps:=rfl
 have H:Hp w0 G0 (fps [frag Fa1,frag Fa2,frag Fa3]) w0 G0 [frag Fa1,frag Fa2,frag Fa3]:=hLent.hp
 refine calls_of_W (l:=[_,.int .i64 k]) func14 Z ntmps14 Z (q2 (o_box H Z Z Z ?_));intro _ _ _ H
 refine aG Z (q1 (fA 0 Z (lB 0 H Z3 (mV Z ?_))))
 have H:=H.tF 1
 refine xc Z2 (w_markHeldS_c _ _ H.sub _ _ _ (show OHs Fa1 _ _ from⟨_,p1⟩) _ H.lent1 oO) ?_
 rintro _ _ ⟨_,_,_,rfl,H2',⟨_,rfl,rfl,hO2⟩⟩
 have H:=H.borrow1 H2'
 refine⟨_,Z,?_⟩
 refine aG Z (q1 (fA 1 Z (lB 1 H Z3 (mV Z ?_))))
 have H:=H.tF 2
 refine xc Z2 (w_markItemS_c _ _ H.sub _ _ _ (show OIs Fa2 _ _ from⟨_,p2⟩) _ H.lent1 oO) ?_
 rintro _ _ ⟨_,_,_,rfl,H3',⟨_,rfl,rfl,hO3⟩⟩
 have H:=H.borrow1 H3'
 refine⟨_,Z,?_⟩
 refine aG Z (q1 (fA 2 Z (lB 2 H Z3 (mV Z ?_))))
 have H:=H.tF 3
 refine xc Z2 (w_markSnapS_c _ _ H.sub _ _ _ (show OSn Fa3 _ _ from⟨_,p3⟩) _ H.lent1 oO) ?_
 rintro _ _ ⟨_,_,_,rfl,H4',⟨_,rfl,rfl,hO4⟩⟩
 have H:=H.borrow1 H4'
 refine⟨_,Z,?_⟩
 refine aG Z (q1 (pe 2 Z (q3 (W_ret (rt1 results14 Z ?_)))))
 have H:=H.dl 3
 have H:=H.tF 1
 have H:=H.tF 2
 exact H.retM ⟨_,_,_,congrArg (Value.int .i64) oM,Z,(show _ from hO2),(show _ from hO3),(show _ from hO4)⟩
theorem bf34:BuildFact Tryz.prog 34 [(0,1),(1,1),(2,1)] [.slice none 0 0,.slice none 0 0,.slice none 0 0]:=buildFact zeroValue34 runUnderlying34 (fun w=>by simp[sizeOf30,sizeOf31,sizeOf32])
theorem bf106:BuildFact Tryz.prog 106 [(0,1),(1,1)] [str [],.slice none 0 0]:=buildFact zeroValue106 runUnderlying106 (fun w=>by simp[sizeOf9,sizeOf31])
theorem bf107:BuildFact Tryz.prog 107 [(0,1),(1,1),(2,1)] [.int .i64 0,.slice none 0 0,.int .i64 0]:=buildFact zeroValue107 runUnderlying107 (fun w=>by simp[sizeOf3,sizeOf92])
theorem bf109:BuildFact Tryz.prog 109 [(0,1),(1,1),(2,1)] [str [],.bool false,.slice none 0 0]:=buildFact zeroValue109 runUnderlying109 (fun w=>by simp[sizeOf4,sizeOf9,sizeOf92])
theorem bf127:BuildFact Tryz.prog 127 [] []:=buildFact zeroValue127 runUnderlying127 (fun w=>by simp[])
theorem bf138:BuildFact Tryz.prog 138 [(0,1),(1,1)] [.map none,.pointer none]:=buildFact zeroValue138 runUnderlying138 (fun w=>by simp[sizeOf135,sizeOf136])
theorem bf141:BuildFact Tryz.prog 141 [(0,2),(2,2),(4,1)] [.int .i32 0,.int .u32 0,.map none,.pointer none,.slice none 0 0]:=buildFact zeroValue141 runUnderlying141 (fun w=>by simp[sizeOf133,sizeOf138,sizeOf139])
theorem bf145:BuildFact Tryz.prog 145 [(0,1),(1,1)] [str [],.pointer none]:=buildFact zeroValue145 runUnderlying145 (fun w=>by simp[sizeOf9,sizeOf136])
theorem bf192:BuildFact Tryz.prog 192 [(0,1),(1,1),(2,1),(3,1)] [str [],.bool false,.slice none 0 0,.slice none 0 0]:=buildFact zeroValue192 runUnderlying192 (fun w=>by simp[sizeOf4,sizeOf9,sizeOf92,sizeOf168])
theorem l_Equal_c (w0:World)(G0:PH)(hG:PSub G0 w0)(va:Value)(a:List (Int))(ha:RdI G0 va a)(vb:Value)(b:List (Int))(hb:RdI G0 vb b) :
  Calls Tryz.prog 205 #[va,vb] w0 (Rets w0 (.bool (Sp.l2Same a b))):=by
 obtain⟨aa,ka,rfl⟩:=ha.shape
 have hlima:a.length≤1099511627776:=ha.lim
 obtain⟨ab,kb,rfl⟩:=hb.shape
 have hlimb:b.length≤1099511627776:=hb.lim
 have H:=Hp.init hG
 refine calls_of_W (l:=[.slice aa a.length ka,.slice ab b.length kb]) func205 Z ntmps205 Z (q2 (aG Z (q3 (W_seq (q2 (mV Z (lN Z (mV Z (lN Z (pe 1 Z (q3 ?_)))))))))))
 refine W_cond Z ?_ ?_
 ·intro hc1
  try simp only[nrm]at hc1
  refine q2 (aG Z (q3 (W_ret (N_K_ret (rt1 results205 Z ?_)))))
  exact H.rets (congrArg Value.bool (by unfold Sp.l2Same;exact Sp.ne_len oM))
 intro hc1'
 try simp only[nrm]at hc1'
 refine W_skip (N_K (W_seq (q2 (mV Z (lN Z (mV Z (q3 (W_block ?_))))))))
 refine W_lp (hf:=(Sub.cons (t:=0) Z (Sub.cons (t:=1) Z (Sub.cons (t:=12) Z Sub.nil)))) (J:=fun M w m=>∃(k:Nat) (G:PH),M=[(13,.int .i64 (k:Int))]∧PLe G0 G∧Hp w0 G0 [] w G []∧(k≤a.length∧a.take k=b.take k)∧m=(a.length-k)) (h0:=⟨0,_,Z,PLe.refl _,H,?inv,Z⟩) (round:=?round)
 case inv=>exact⟨by omega,by simp⟩
 case round =>
  rintro _ _ _ ⟨k,G2,rfl,hle2,H,hinv2,rfl⟩
  have ha:=ha.up hle2
  have hb:=hb.up hle2
  obtain⟨_,hall⟩:=hinv2
  refine q2 (pe 1 Z (q3 (W_seq ?_)))
  refine W_cond Z ?_ ?_
  ·intro hc3
   try simp only[nrm]at hc3
   refine W_skip (N_K (W_seq (W_block (q2 (pe 2 Z (q3 (W_seq (W_drawK [] 9 H kR Z ?_))))))));intro _ H;have hd4:=PLe.refl G2
   refine dE 0 Z2 (dE 1 Z2 ?_)
   have hl5:=ha.len
   obtain⟨_,_,_,_,ha5,hz5,hq5,hE5,hrow5,_⟩:=ha.at (i:=k) oM
   clear hq5
   obtain⟨rfl,_⟩:=hE5
   refine dI 2 1 k ha5 Z3 Z (dP 3 hrow5 0 Z3 (dE 4 Z2 (dE 5 Z2 ?_)))
   have hl6:=hb.len
   obtain⟨_,_,_,_,ha6,hz6,hq6,hE6,hrow6,_⟩:=hb.at (i:=k) oM
   clear hq6
   obtain⟨rfl,_⟩:=hE6
   refine dI 6 1 k ha6 Z3 Z (dP 7 hrow6 0 Z3 (dE 8 Z2 (rz (N_K ?_))))
   refine W_cond Z ?_ ?_
   ·intro hc7
    try simp only[nrm]at hc7
    refine q2 (aG Z (q3 (W_ret (N_B_ret (N_K_ret (N_LP_ret (N_B_ret (N_K_ret (rt1 results205 Z ?_)))))))))
    exact H.rets (congrArg Value.bool (by unfold Sp.l2Same;exact Sp.ne_at hz5 hz6 oM))
   intro hc7'
   try simp only[nrm]at hc7'
   refine W_skip (N_B (N_K (W_region (aD Z2 (mV Z (R_nil ?_))))))
   refine N_lp (hJ:=⟨k+1,_,Z,hle2,H,?inv,Z⟩) (hm:=?hm)
   case hm=>omega
   case inv=>exact⟨by omega,Sp.take_eq hall hz5 (by rw[hz6];congr 1;omega)⟩
  intro hc3'
  try simp only[nrm]at hc3'
  refine W_exit (N_K_exit (N_LP_exit (N_B_same (N_K (q2 (aG Z (q3 (W_ret (rt1 results205 Z ?_)))))))))
  exact H.rets (congrArg Value.bool (by unfold Sp.l2Same;exact Sp.eq_all hall oM oM))
theorem l_Clone_c (w0:World)(G0:PH)(hG:PSub G0 w0)(vl:Value)(l:List (Int))(hl:RdI G0 vl l) :
  Calls Tryz.prog 150 #[vl] w0 (RetO w0 G0 (AccOf intE 1 3 l)):=by
 obtain⟨al,kl,rfl⟩:=hl.shape
 have hliml:l.length≤1099511627776:=hl.lim
 have H:=Hp.init hG
 refine calls_of_W (l:=[.slice al l.length kl]) func150 Z ntmps150 Z (q2 (aG Z (q3 (W_seq (q2 (mV Z (o_eqnil_slice underlying92 Z Z Z (q3 ?_))))))))
 refine W_cond Z ?_ ?_
 ·intro hc1
  try simp only[nrm]at hc1
  refine q2 (aG Z (q3 (W_ret (N_K_ret (rt1 results150 Z ?_)))))
  obtain rfl:al=none:=by simpa using hc1
  obtain rfl:l=[]:=by obtain⟨_,_,h1,_,_,h2⟩:=hl;rcases h2 with h2|⟨b,o,h2,_⟩;(· exact h2);simp only[Value.slice.injEq]at h1;rw[←h1.1]at h2;cases h2
  have H:=H.addNil 3 1
  exact H.retO (k:=0) Z (AccOf.mk Z Chk.nil) (acc_nd _ _ _ _ _)
 intro hc1'
 try simp only[nrm]at hc1'
 refine W_skip (N_K (q2 (xbs H Z7 ?_)));intro _ _ _ H
 have H:=H.blkAcc 1 (k:=0) (n:=0) rfl rfl (by decide)
 refine mV Z ?_
 refine o_append_P 0 H hl (by intro _ _ hz _ hu;obtain⟨rfl,_⟩:=hz;simp at hu;subst hu;rfl) (sz:=1) (bytes:=8) underlying92 typeInfo3 ⟨_,rfl,rfl⟩ rfl rfl rfl rfl rfl rfl rfl oM rfl ?_;intro _ _ css3 hcl3 hcs3 H
 have hchk3:Chk intE 1 G0 ([]++css3.flatten) _:=⟨css3,rfl,hcl3,hcs3⟩
 obtain⟨_,_,rfl⟩:=H.accShape (k:=0) rfl
 refine aG Z (q3 (W_ret (rt1 results150 Z ?_)))
 exact H.retO (k:=0) rfl (by skip;exact AccOf.mk aN hchk3) (acc_nd _ _ _ _ _)
theorem i_bytesValid_c (w0:World)(G0:PH)(hG:PSub G0 w0)(vbytes:Value)(bytes:List (Int))(hbytes:RdI G0 vbytes bytes) :
  Calls Tryz.prog 223 #[vbytes] w0 (Rets w0 (.bool (bytes.all Sp.byteOk))):=by
 obtain⟨abytes,kbytes,rfl⟩:=hbytes.shape
 have hlimbytes:bytes.length≤1099511627776:=hbytes.lim
 have H:=Hp.init hG
 refine calls_of_W (l:=[.slice abytes bytes.length kbytes]) func223 Z ntmps223 Z (q2 (aG Z (q3 (W_seq (q2 (mV Z (lN Z (mV Z (q3 (W_block ?_))))))))))
 refine W_lp (hf:=(Sub.cons (t:=5) Z (Sub.cons (t:=6) Z Sub.nil))) (J:=fun M w m=>∃(k:Nat) (G:PH),M=[(7,.int .i64 (k:Int))]∧PLe G0 G∧Hp w0 G0 [] w G []∧(k≤bytes.length∧(bytes.take k).all Sp.byteOk=true)∧m=(bytes.length-k)) (h0:=⟨0,_,Z,PLe.refl _,H,?inv,Z⟩) (round:=?round)
 case inv=>exact⟨by omega,by simp⟩
 case round =>
  rintro _ _ _ ⟨k,_,rfl,hle1,H,hinv1,rfl⟩
  have hbytes:=hbytes.up hle1
  obtain⟨_,hall⟩:=hinv1
  refine q2 (pe 1 Z (q3 (W_seq ?_)))
  refine W_cond Z ?_ ?_
  ·intro hc2
   try simp only[nrm]at hc2
   refine W_skip (N_K (W_seq (W_block (q2 (iP k hbytes Z3 Z ?_)))));intro _ _ _ _ hz3 hE3 hrow3
   obtain⟨rfl,_⟩:=hE3
   refine lP H hrow3 0 Z2 (aG Z (q1 (pe 3 Z ?_)))
   refine R_case (t:=13) Z ?_ ?_
   ·intro hc4
    try simp only[nrm]at hc4
    refine pe 3 Z (q3 (W_true Z (q2 (aG Z (q3 (W_ret (N_B_ret (N_K_ret (N_LP_ret (N_B_ret (N_K_ret (rt1 results223 Z ?_))))))))))))
    exact H.rets (congrArg Value.bool (by rw[Sp.all_false hz3 (by simp[Sp.byteOk,Sp.l6In];omega)]))
   intro hc4'
   try simp only[nrm]at hc4'
   refine pe 3 Z (q3 ?_)
   refine W_cond Z ?_ ?_
   ·intro hc5
    try simp only[nrm]at hc5
    refine q2 (aG Z (q3 (W_ret (N_B_ret (N_K_ret (N_LP_ret (N_B_ret (N_K_ret (rt1 results223 Z ?_)))))))))
    exact H.rets (congrArg Value.bool (by rw[Sp.all_false hz3 (by simp[Sp.byteOk,Sp.l6In];omega)]))
   intro hc5'
   try simp only[nrm]at hc5'
   refine W_skip (N_B (N_K (W_region (aD Z2 (mV Z (R_nil ?_))))))
   refine N_lp (hJ:=⟨k+1,_,Z,hle1,H,?inv,Z⟩) (hm:=?hm)
   case hm=>omega
   case inv=>exact⟨by omega,Sp.all_take hall hz3 (by simp[Sp.byteOk,Sp.l6In];omega)⟩
  intro hc2'
  try simp only[nrm]at hc2'
  refine W_exit (N_K_exit (N_LP_exit (N_B_same (N_K (q2 (aG Z (q3 (W_ret (rt1 results223 Z ?_)))))))))
  obtain rfl:k=bytes.length:=by omega
  rw[List.take_length]at hall
  exact H.rets (congrArg Value.bool (by rw[hall]))
theorem i_BlockValid_c (w0:World)(G0:PH)(hG:PSub G0 w0)(vbytes:Value)(bytes:List (Int))(hbytes:RdI G0 vbytes bytes) :
  Calls Tryz.prog 204 #[vbytes] w0 (Rets w0 (.bool (Sp.BlockValid bytes))):=by
 obtain⟨abytes,kbytes,rfl⟩:=hbytes.shape
 have hlimbytes:bytes.length≤1099511627776:=hbytes.lim
 have H:=Hp.init hG
 refine calls_of_W (l:=[.slice abytes bytes.length kbytes]) func204 Z ntmps204 Z (q2 (aG Z (q1 (mV Z (lN Z (pe 2 Z ?_))))))
 refine R_case (t:=6) Z ?_ ?_
 ·intro hc1
  try simp only[nrm]at hc1
  refine pe 1 Z (gR Z (lN Z (pe 3 Z ?_)))
  refine R_case (t:=11) Z ?_ ?_
  ·intro hc2
   try simp only[nrm]at hc2
   refine pe 1 Z (gR Z (xr H Z2 (i_bytesValid_c _ _ H.sub _ _ hbytes) ?_));intro _ H
   refine pe 2 Z (q3 (W_ret (rt1 results204 Z ?_)))
   exact H.rets (congrArg Value.bool (by unfold Sp.BlockValid Sp.l6In;rw[Bool.eq_iff_iff];simp;omega))
  intro hc2'
  try simp only[nrm]at hc2'
  refine pe 4 Z (q3 (W_ret (rt1 results204 Z ?_)))
  exact H.rets (congrArg Value.bool (by unfold Sp.BlockValid Sp.l6In;rw[Bool.eq_iff_iff];simp;omega))
 intro hc1'
 try simp only[nrm]at hc1'
 refine pe 9 Z (q3 (W_ret (rt1 results204 Z ?_)))
 exact H.rets (congrArg Value.bool (by unfold Sp.BlockValid Sp.l6In;rw[Bool.eq_iff_iff];simp;omega))
theorem i_partValid_c (w0:World)(s:Bs)(hs:s.length≤16777216) :
  Calls Tryz.prog 95 #[str s] w0 (Rets w0 (.bool (Sp.l1Word s))):=by
 have H:=Hp.init0 w0
 refine calls_of_W (l:=[str s]) func95 Z ntmps95 Z (q2 (aG Z (q3 (W_seq (q2 (mV Z (lS Z (pe 2 Z ?_))))))))
 refine R_case (t:=7) Z ?_ ?_
 ·intro hc1
  try simp only[nrm]at hc1
  refine pe 4 Z (q3 (W_true Z (q2 (aG Z (q3 (W_ret (N_K_ret (rt1 results95 Z ?_))))))))
  exact H.rets (congrArg Value.bool (by unfold Sp.l1Word;rw[Bool.eq_iff_iff];simp;omega))
 intro hc1'
 try simp only[nrm]at hc1'
 refine pe 1 Z (gR Z (lS Z (pe 2 Z (q3 ?_))))
 refine W_cond Z ?_ ?_
 ·intro hc2
  try simp only[nrm]at hc2
  refine q2 (aG Z (q3 (W_ret (N_K_ret (rt1 results95 Z ?_)))))
  exact H.rets (congrArg Value.bool (by unfold Sp.l1Word;rw[Bool.eq_iff_iff];simp;omega))
 intro hc2'
 try simp only[nrm]at hc2'
 refine W_skip (N_K (W_seq (q2 (aG Z (q3 (W_block ?_))))))
 refine W_lp (hf:=(Sub.cons (t:=0) Z Sub.nil)) (J:=fun M w m=>∃(k:Nat) (G:PH),M=[(3,.int .i64 (k:Int))]∧PLe (fun _=>none) G∧Hp w0 (fun _=>none) [] w G []∧(k≤s.length∧(s.take k).all Sp.low=true)∧m=(s.length-k)) (h0:=⟨0,_,Z,PLe.refl _,H,?inv,Z⟩) (round:=?round)
 case inv=>exact⟨by omega,by simp⟩
 case round =>
  rintro _ _ _ ⟨k,_,rfl,hle3,H,hinv3,rfl⟩
  obtain⟨_,hall⟩:=hinv3
  refine W_seq (q2 (pe 2 Z (lS Z (pe 1 Z (q3 ?_)))))
  refine W_cond Z ?_ ?_
  ·intro hc4
   try simp only[nrm]at hc4
   refine W_skip (N_K (W_seq (W_block (q2 (pe 2 Z (o_index_str underlying9 Z Z Z Z oM ?_))))));intro ch5 hch5;have hlt5:=ch5.toNat_lt
   refine pe 2 Z ?_
   refine R_case (t:=22) Z ?_ ?_
   ·intro hc6
    try simp only[nrm]at hc6
    refine pe 5 Z (q3 (W_true Z (q2 (aG Z (q3 (W_ret (N_B_ret (N_K_ret (N_LP_ret (N_B_ret (N_K_ret (rt1 results95 Z ?_))))))))))))
    exact H.rets (congrArg Value.bool (by rw[Sp.l1Word,Sp.all_false hch5 (by simp[Sp.low];omega)];rfl))
   intro hc6'
   try simp only[nrm]at hc6'
   refine pe 2 Z (gR Z (o_index_str underlying9 Z Z Z Z oM ?_));intro ch7 hch7;have hlt7:=ch7.toNat_lt
   obtain rfl:ch7=ch5:=Option.some.inj (hch7.symm.trans hch5)
   refine pe 2 Z (q3 ?_)
   refine W_cond Z ?_ ?_
   ·intro hc8
    try simp only[nrm]at hc8
    refine q2 (aG Z (q3 (W_ret (N_B_ret (N_K_ret (N_LP_ret (N_B_ret (N_K_ret (rt1 results95 Z ?_)))))))))
    exact H.rets (congrArg Value.bool (by rw[Sp.l1Word,Sp.all_false hch7 (by simp[Sp.low];omega)];rfl))
   intro hc8'
   try simp only[nrm]at hc8'
   refine W_skip (N_B (N_K (W_region (mV Z (aD Z2 (aG Z (R_nil ?_)))))))
   refine N_lp (hJ:=⟨k+1,_,Z,hle3,H,?inv,Z⟩) (hm:=?hm)
   case hm=>omega
   case inv=>exact⟨by omega,Sp.all_take hall hch7 (by simp[Sp.low];omega)⟩
  intro hc4'
  try simp only[nrm]at hc4'
  refine W_exit (N_K_exit (N_LP_exit (N_B_same (N_K (q2 (aG Z (q3 (W_ret (rt1 results95 Z ?_)))))))))
  obtain rfl:k=s.length:=by omega
  rw[List.take_length]at hall
  exact H.rets (congrArg Value.bool (by simp only[Sp.l1Word,hall];rw[Bool.eq_iff_iff];simp;omega))
end Go.Proofs.Tst
namespace Go.Proofs
open Go.Shelf
def Tryz.keysA_ren:Go.Shelf.Ren:=⟨fun|7=>149|10=>181|n=>n,fun|23=>135|26=>3|3=>107|28=>196|0=>0|27=>195|33=>206|4=>4|n=>n,fun|n=>n⟩
theorem Tryz.keysA:Go.Proofs.SlLaysZI.n7 Tryz.prog Tryz.keysA_ren:={
 mixed:=by kernel_rfl
 f7:=⟨Tryz.f149.name,by decide,Tryz.func149.trans (congrArg some (by kernel_rfl))⟩
 f10:=⟨Tryz.f181.name,by decide,Tryz.func181.trans (congrArg some (by kernel_rfl))⟩
 t0:=Tryz.underlying0
 a0:=Tryz.isAgg0
 z0:=Tryz.sizeOf0
 v0:=Tryz.zeroValue0
 t4:=Tryz.underlying4
 a4:=Tryz.isAgg4
 z4:=Tryz.sizeOf4
 v4:=Tryz.zeroValue4
 t23:=Tryz.underlying135
 a23:=Tryz.isAgg135
 z23:=Tryz.sizeOf135
 v23:=Tryz.zeroValue135
 t26:=Tryz.underlying3
 a26:=Tryz.isAgg3
 z26:=Tryz.sizeOf3
 v26:=Tryz.zeroValue3
 t27:=Tryz.underlying195
 a27:=Tryz.isAgg195
 z27:=Tryz.sizeOf195
 v27:=Tryz.zeroValue195
 t28:=Tryz.underlying196
 a28:=Tryz.isAgg196
 z28:=Tryz.sizeOf196
 v28:=Tryz.zeroValue196
 t33:=Tryz.underlying206
 a33:=Tryz.isAgg206
 z33:=Tryz.sizeOf206
 v33:=Tryz.zeroValue206}
def Tryz.sortedA_ren:Go.Shelf.Ren:=⟨fun|6=>148|8=>179|9=>180|11=>213|13=>163|12=>214|23=>197|24=>198|14=>226|15=>227|16=>228|17=>229|18=>230|19=>231|20=>232|21=>233|22=>234|25=>238|26=>216|27=>217|28=>239|29=>240|30=>241|31=>243|n=>n,fun|26=>3|28=>196|24=>92|0=>0|3=>3|37=>210|48=>129|50=>240|4=>4|40=>233|39=>232|45=>222|5=>5|9=>9|51=>255|55=>259|57=>271|58=>272|33=>206|n=>n,fun|n=>n⟩
theorem Tryz.sortedA:Go.Proofs.SlLaysZI.n6 Tryz.prog Tryz.sortedA_ren:={
 mixed:=by kernel_rfl
 f6:=⟨Tryz.f148.name,by decide,Tryz.func148.trans (congrArg some (by kernel_rfl))⟩
 f8:=⟨Tryz.f179.name,by decide,Tryz.func179.trans (congrArg some (by kernel_rfl))⟩
 f11:=⟨Tryz.f213.name,by decide,Tryz.func213.trans (congrArg some (by kernel_rfl))⟩
 t0:=Tryz.underlying0
 a0:=Tryz.isAgg0
 z0:=Tryz.sizeOf0
 v0:=Tryz.zeroValue0
 t24:=Tryz.underlying92
 a24:=Tryz.isAgg92
 z24:=Tryz.sizeOf92
 v24:=Tryz.zeroValue92
 t26:=Tryz.underlying3
 a26:=Tryz.isAgg3
 z26:=Tryz.sizeOf3
 v26:=Tryz.zeroValue3
 t28:=Tryz.underlying196
 a28:=Tryz.isAgg196
 z28:=Tryz.sizeOf196
 v28:=Tryz.zeroValue196
 i26:=by kernel_rfl}
def Tryz.sortA_ren:Go.Shelf.Ren:=⟨fun|5=>180|8=>163|7=>214|19=>197|20=>198|10=>226|11=>227|12=>228|13=>229|14=>230|15=>231|16=>232|17=>233|18=>234|30=>238|31=>216|32=>217|33=>239|34=>240|35=>241|40=>243|n=>n,fun|23=>92|25=>3|3=>3|32=>210|22=>92|0=>0|44=>129|46=>240|4=>4|36=>233|35=>232|41=>222|5=>5|9=>9|53=>255|57=>259|63=>271|64=>272|n=>n,fun|n=>n⟩
theorem Tryz.sortA:Go.Proofs.SlLaysM.n5 Tryz.prog Tryz.sortA_ren:={
 mixed:=by kernel_rfl
 f5:=⟨Tryz.f180.name,by decide,Tryz.func180.trans (congrArg some (by kernel_rfl))⟩
 f7:=⟨Tryz.f214.name,by decide,Tryz.func214.trans (congrArg some (by kernel_rfl))⟩
 f8:=Tryz.func163.trans (congrArg some (by kernel_rfl))
 f10:=⟨Tryz.f226.name,by decide,Tryz.func226.trans (congrArg some (by kernel_rfl))⟩
 f11:=⟨Tryz.f227.name,by decide,Tryz.func227.trans (congrArg some (by kernel_rfl))⟩
 f12:=⟨Tryz.f228.name,by decide,Tryz.func228.trans (congrArg some (by kernel_rfl))⟩
 f13:=⟨Tryz.f229.name,by decide,Tryz.func229.trans (congrArg some (by kernel_rfl))⟩
 f14:=⟨Tryz.f230.name,by decide,Tryz.func230.trans (congrArg some (by kernel_rfl))⟩
 f15:=⟨Tryz.f231.name,by decide,Tryz.func231.trans (congrArg some (by kernel_rfl))⟩
 f16:=⟨Tryz.f232.name,by decide,Tryz.func232.trans (congrArg some (by kernel_rfl))⟩
 f17:=⟨Tryz.f233.name,by decide,Tryz.func233.trans (congrArg some (by kernel_rfl))⟩
 f18:=⟨Tryz.f234.name,by decide,Tryz.func234.trans (congrArg some (by kernel_rfl))⟩
 f19:=Tryz.func197.trans (congrArg some (by kernel_rfl))
 f20:=Tryz.func198.trans (congrArg some (by kernel_rfl))
 f30:=⟨Tryz.f238.name,by decide,Tryz.func238.trans (congrArg some (by kernel_rfl))⟩
 f31:=Tryz.func216.trans (congrArg some (by kernel_rfl))
 f32:=Tryz.func217.trans (congrArg some (by kernel_rfl))
 f33:=⟨Tryz.f239.name,by decide,Tryz.func239.trans (congrArg some (by kernel_rfl))⟩
 f34:=⟨Tryz.f240.name,by decide,Tryz.func240.trans (congrArg some (by kernel_rfl))⟩
 f35:=⟨Tryz.f241.name,by decide,Tryz.func241.trans (congrArg some (by kernel_rfl))⟩
 f40:=⟨Tryz.f243.name,by decide,Tryz.func243.trans (congrArg some (by kernel_rfl))⟩
 t0:=Tryz.underlying0
 a0:=Tryz.isAgg0
 z0:=Tryz.sizeOf0
 v0:=Tryz.zeroValue0
 t3:=Tryz.underlying3
 a3:=Tryz.isAgg3
 z3:=Tryz.sizeOf3
 v3:=Tryz.zeroValue3
 t4:=Tryz.underlying4
 a4:=Tryz.isAgg4
 z4:=Tryz.sizeOf4
 v4:=Tryz.zeroValue4
 t5:=Tryz.underlying5
 a5:=Tryz.isAgg5
 z5:=Tryz.sizeOf5
 v5:=Tryz.zeroValue5
 t9:=Tryz.underlying9
 a9:=Tryz.isAgg9
 z9:=Tryz.sizeOf9
 v9:=Tryz.zeroValue9
 t22:=Tryz.underlying92
 a22:=Tryz.isAgg92
 z22:=Tryz.sizeOf92
 v22:=Tryz.zeroValue92
 t23:=Tryz.underlying92
 a23:=Tryz.isAgg92
 z23:=Tryz.sizeOf92
 v23:=Tryz.zeroValue92
 t25:=Tryz.underlying3
 a25:=Tryz.isAgg3
 z25:=Tryz.sizeOf3
 v25:=Tryz.zeroValue3
 t32:=Tryz.underlying210
 a32:=Tryz.isAgg210
 z32:=Tryz.sizeOf210
 v32:=Tryz.zeroValue210
 t35:=Tryz.underlying232
 a35:=Tryz.isAgg232
 z35:=Tryz.sizeOf232
 v35:=Tryz.zeroValue232
 t36:=Tryz.underlying233
 a36:=Tryz.isAgg233
 z36:=Tryz.sizeOf233
 v36:=Tryz.zeroValue233
 t41:=Tryz.underlying222
 a41:=Tryz.isAgg222
 z41:=Tryz.sizeOf222
 v41:=Tryz.zeroValue222
 t44:=Tryz.underlying129
 a44:=Tryz.isAgg129
 z44:=Tryz.sizeOf129
 v44:=Tryz.zeroValue129
 t46:=Tryz.underlying240
 a46:=Tryz.isAgg240
 z46:=Tryz.sizeOf240
 v46:=Tryz.zeroValue240
 t53:=Tryz.underlying255
 a53:=Tryz.isAgg255
 z53:=Tryz.sizeOf255
 v53:=Tryz.zeroValue255
 t57:=Tryz.underlying259
 a57:=Tryz.isAgg259
 z57:=Tryz.sizeOf259
 v57:=Tryz.zeroValue259
 t63:=Tryz.underlying271
 a63:=Tryz.isAgg271
 z63:=Tryz.sizeOf271
 v63:=Tryz.zeroValue271
 t64:=Tryz.underlying272
 a64:=Tryz.isAgg272
 z64:=Tryz.sizeOf272
 v64:=Tryz.zeroValue272}
def Tryz.sortFH_ren:Go.Shelf.Ren:=⟨fun|6=>125|15=>163|14=>162|28=>197|29=>198|20=>189|21=>190|22=>191|23=>192|24=>193|25=>194|26=>195|27=>196|46=>215|47=>216|48=>217|49=>218|50=>219|57=>235|n=>n,fun|22=>38|24=>55|25=>88|3=>3|39=>210|0=>0|53=>129|55=>240|4=>4|46=>233|45=>232|50=>222|5=>5|9=>9|66=>255|70=>259|76=>271|77=>272|n=>n,fun|n=>n⟩
theorem Tryz.sortFH:Go.Proofs.SlLaysF0.n6 Tryz.prog Tryz.sortFH_ren:={
 mixed:=by kernel_rfl
 f6:=⟨Tryz.f125.name,by decide,Tryz.func125.trans (congrArg some (by kernel_rfl))⟩
 f14:=⟨Tryz.f162.name,by decide,Tryz.func162.trans (congrArg some (by kernel_rfl))⟩
 f15:=Tryz.func163.trans (congrArg some (by kernel_rfl))
 f20:=⟨Tryz.f189.name,by decide,Tryz.func189.trans (congrArg some (by kernel_rfl))⟩
 f21:=⟨Tryz.f190.name,by decide,Tryz.func190.trans (congrArg some (by kernel_rfl))⟩
 f22:=⟨Tryz.f191.name,by decide,Tryz.func191.trans (congrArg some (by kernel_rfl))⟩
 f23:=⟨Tryz.f192.name,by decide,Tryz.func192.trans (congrArg some (by kernel_rfl))⟩
 f24:=⟨Tryz.f193.name,by decide,Tryz.func193.trans (congrArg some (by kernel_rfl))⟩
 f25:=⟨Tryz.f194.name,by decide,Tryz.func194.trans (congrArg some (by kernel_rfl))⟩
 f26:=⟨Tryz.f195.name,by decide,Tryz.func195.trans (congrArg some (by kernel_rfl))⟩
 f27:=⟨Tryz.f196.name,by decide,Tryz.func196.trans (congrArg some (by kernel_rfl))⟩
 f28:=Tryz.func197.trans (congrArg some (by kernel_rfl))
 f29:=Tryz.func198.trans (congrArg some (by kernel_rfl))
 f46:=⟨Tryz.f215.name,by decide,Tryz.func215.trans (congrArg some (by kernel_rfl))⟩
 f47:=Tryz.func216.trans (congrArg some (by kernel_rfl))
 f48:=Tryz.func217.trans (congrArg some (by kernel_rfl))
 f49:=⟨Tryz.f218.name,by decide,Tryz.func218.trans (congrArg some (by kernel_rfl))⟩
 f50:=⟨Tryz.f219.name,by decide,Tryz.func219.trans (congrArg some (by kernel_rfl))⟩
 f57:=⟨Tryz.f235.name,by decide,Tryz.func235.trans (congrArg some (by kernel_rfl))⟩
 t0:=Tryz.underlying0
 a0:=Tryz.isAgg0
 z0:=Tryz.sizeOf0
 v0:=Tryz.zeroValue0
 t3:=Tryz.underlying3
 a3:=Tryz.isAgg3
 z3:=Tryz.sizeOf3
 v3:=Tryz.zeroValue3
 t4:=Tryz.underlying4
 a4:=Tryz.isAgg4
 z4:=Tryz.sizeOf4
 v4:=Tryz.zeroValue4
 t5:=Tryz.underlying5
 a5:=Tryz.isAgg5
 z5:=Tryz.sizeOf5
 v5:=Tryz.zeroValue5
 t9:=Tryz.underlying9
 a9:=Tryz.isAgg9
 z9:=Tryz.sizeOf9
 v9:=Tryz.zeroValue9
 t22:=Tryz.underlying38
 a22:=Tryz.isAgg38
 z22:=Tryz.sizeOf38
 v22:=Tryz.zeroValue38
 t25:=Tryz.underlying88
 a25:=Tryz.isAgg88
 z25:=Tryz.sizeOf88
 v25:=Tryz.zeroValue88
 t39:=Tryz.underlying210
 a39:=Tryz.isAgg210
 z39:=Tryz.sizeOf210
 v39:=Tryz.zeroValue210
 t45:=Tryz.underlying232
 a45:=Tryz.isAgg232
 z45:=Tryz.sizeOf232
 v45:=Tryz.zeroValue232
 t46:=Tryz.underlying233
 a46:=Tryz.isAgg233
 z46:=Tryz.sizeOf233
 v46:=Tryz.zeroValue233
 t50:=Tryz.underlying222
 a50:=Tryz.isAgg222
 z50:=Tryz.sizeOf222
 v50:=Tryz.zeroValue222
 t53:=Tryz.underlying129
 a53:=Tryz.isAgg129
 z53:=Tryz.sizeOf129
 v53:=Tryz.zeroValue129
 t55:=Tryz.underlying240
 a55:=Tryz.isAgg240
 z55:=Tryz.sizeOf240
 v55:=Tryz.zeroValue240
 t66:=Tryz.underlying255
 a66:=Tryz.isAgg255
 z66:=Tryz.sizeOf255
 v66:=Tryz.zeroValue255
 t70:=Tryz.underlying259
 a70:=Tryz.isAgg259
 z70:=Tryz.sizeOf259
 v70:=Tryz.zeroValue259
 t76:=Tryz.underlying271
 a76:=Tryz.isAgg271
 z76:=Tryz.sizeOf271
 v76:=Tryz.zeroValue271
 t77:=Tryz.underlying272
 a77:=Tryz.isAgg272
 z77:=Tryz.sizeOf272
 v77:=Tryz.zeroValue272}
def Tryz.lays143_ren:Go.Shelf.Ren:=⟨fun|143=>246|219=>250|217=>252|225=>253|224=>254|267=>255|266=>256|314=>257|n=>n,fun|9=>9|3=>3|4=>4|5=>5|46=>210|146=>288|51=>129|n=>n,fun|1=>0|n=>n⟩
theorem Tryz.lays143:Go.Proofs.Lays.n143 Tryz.prog Tryz.lays143_ren:={
 mixed:=by kernel_rfl
 f143:=Tryz.func246.trans (congrArg some (by kernel_rfl))
 f217:=Tryz.func252.trans (congrArg some (by kernel_rfl))
 f219:=Tryz.func250.trans (congrArg some (by kernel_rfl))
 f224:=Tryz.func254.trans (congrArg some (by kernel_rfl))
 f225:=Tryz.func253.trans (congrArg some (by kernel_rfl))
 f266:=Tryz.func256.trans (congrArg some (by kernel_rfl))
 f267:=Tryz.func255.trans (congrArg some (by kernel_rfl))
 f314:=Tryz.func257.trans (congrArg some (by kernel_rfl))
 t3:=Tryz.underlying3
 a3:=Tryz.isAgg3
 z3:=Tryz.sizeOf3
 v3:=Tryz.zeroValue3
 t4:=Tryz.underlying4
 a4:=Tryz.isAgg4
 z4:=Tryz.sizeOf4
 v4:=Tryz.zeroValue4
 t5:=Tryz.underlying5
 a5:=Tryz.isAgg5
 z5:=Tryz.sizeOf5
 v5:=Tryz.zeroValue5
 t9:=Tryz.underlying9
 a9:=Tryz.isAgg9
 z9:=Tryz.sizeOf9
 v9:=Tryz.zeroValue9
 t46:=Tryz.underlying210
 a46:=Tryz.isAgg210
 z46:=Tryz.sizeOf210
 v46:=Tryz.zeroValue210
 t51:=Tryz.underlying129
 a51:=Tryz.isAgg129
 z51:=Tryz.sizeOf129
 v51:=Tryz.zeroValue129
 t146:=Tryz.underlying288
 a146:=Tryz.isAgg288
 z146:=Tryz.sizeOf288
 v146:=Tryz.zeroValue288
 g1:=by kernel_rfl}
def Tryz.lays138_ren:Go.Shelf.Ren:=⟨fun|138=>245|195=>247|218=>249|143=>246|219=>250|217=>252|225=>253|224=>254|267=>255|266=>256|314=>257|n=>n,fun|9=>9|3=>3|4=>4|5=>5|0=>0|46=>210|146=>288|51=>129|n=>n,fun|1=>0|n=>n⟩
theorem Tryz.lays138:Go.Proofs.Lays.n138 Tryz.prog Tryz.lays138_ren:={
 mixed:=by kernel_rfl
 f138:=Tryz.func245.trans (congrArg some (by kernel_rfl))
 f143:=Tryz.func246.trans (congrArg some (by kernel_rfl))
 f195:=Tryz.func247.trans (congrArg some (by kernel_rfl))
 f217:=Tryz.func252.trans (congrArg some (by kernel_rfl))
 f218:=Tryz.func249.trans (congrArg some (by kernel_rfl))
 f219:=Tryz.func250.trans (congrArg some (by kernel_rfl))
 f224:=Tryz.func254.trans (congrArg some (by kernel_rfl))
 f225:=Tryz.func253.trans (congrArg some (by kernel_rfl))
 f266:=Tryz.func256.trans (congrArg some (by kernel_rfl))
 f267:=Tryz.func255.trans (congrArg some (by kernel_rfl))
 f314:=Tryz.func257.trans (congrArg some (by kernel_rfl))
 t0:=Tryz.underlying0
 a0:=Tryz.isAgg0
 z0:=Tryz.sizeOf0
 v0:=Tryz.zeroValue0
 t3:=Tryz.underlying3
 a3:=Tryz.isAgg3
 z3:=Tryz.sizeOf3
 v3:=Tryz.zeroValue3
 t4:=Tryz.underlying4
 a4:=Tryz.isAgg4
 z4:=Tryz.sizeOf4
 v4:=Tryz.zeroValue4
 t5:=Tryz.underlying5
 a5:=Tryz.isAgg5
 z5:=Tryz.sizeOf5
 v5:=Tryz.zeroValue5
 t9:=Tryz.underlying9
 a9:=Tryz.isAgg9
 z9:=Tryz.sizeOf9
 v9:=Tryz.zeroValue9
 t46:=Tryz.underlying210
 a46:=Tryz.isAgg210
 z46:=Tryz.sizeOf210
 v46:=Tryz.zeroValue210
 t51:=Tryz.underlying129
 a51:=Tryz.isAgg129
 z51:=Tryz.sizeOf129
 v51:=Tryz.zeroValue129
 t146:=Tryz.underlying288
 a146:=Tryz.isAgg288
 z146:=Tryz.sizeOf288
 v146:=Tryz.zeroValue288
 g1:=by kernel_rfl}
end Go.Proofs
namespace Fw
open Go Go.RowKit Go.Maps Go.Sort Go.Shelf Go.Proofs
open Go.WideElems (Fit rg)
def unitR:Value→Option (DataW Unit×List MemPlace):=fun _=>some (.agg [],[])
theorem owns_of {P:Program}{k:TypeId}{w:World}{b:Nat}{es:Array MapEntry}{clock:Nat}{xs:List (Int×Value)}(hk:P.underlying k=some (.int .i64))(hb:w.heap[b]? = some (.map es clock))(hm:MapIs (Value.int .i64) es clock xs)(hw:∀x,x ∈ xs→inI x.1)(hl:xs.length≤1000000) :
  ∃D:DataW Unit,w.ownsMap P k unitR b xs.length D∧(intKeys D).Perm (xs.map (·.1))∧Maps.size D=xs.length:=by
 have hsz:es.size=xs.length:=by have:=congrArg List.length hm.kv;simpa using this
 have hkey:∀x,x ∈ es.toList→∃y,y ∈ xs∧x.key= .int .i64 y.1:=by
  intro x hx
  have:(x.key,x.val) ∈ xs.map (fun y=>(Value.int .i64 y.1,y.2)):=by rw[←hm.kv];exact List.mem_map.2 ⟨x,hx,rfl⟩
  obtain⟨y,h1,h2⟩:=List.mem_map.1 this
  simp only[Prod.mk.injEq]at h2
  exact⟨y,h1,h2.1.symm⟩
 have hwf:∀a:Int,inI a→(Lit.int .i64 a).wf=true:=by
  intro a ha
  unfold inI at ha
  have h1:IntKind.i64.min= -9223372036854775808:=by decide
  have h2:IntKind.i64.max=9223372036854775807:=by decide
  simp only[Lit.wf,h1,h2]
  simp
  omega
 have hrd:∀x,x ∈ es.toList→∃y,y ∈ xs∧x.key= .int .i64 y.1∧Go.WideElems.rd P k unitR x=some (.int .i64 y.1,.agg []):=by
  intro x hx
  obtain⟨y,h1,h2⟩:=hkey x hx
  refine⟨y,h1,h2,?_⟩
  simp only[Go.WideElems.rd,h2,keyOf_int_mk hk (hwf _ (hw y h1)),unitR]
  rfl
 refine⟨.map ((es.toList.map (rg P k unitR)).foldr DataW.insert []),⟨es,clock,hb,⟨?_,⟨hm.lt,hm.born,?_⟩,?_⟩,by omega,rfl⟩,?_,?_⟩
 ·simp only[maxLen];omega
 ·have h1 : es.toList.map (·.key) = xs.map (fun x => Value.int .i64 x.1) := by
   have:=congrArg (List.map (·.1)) hm.kv
   rw[List.map_map,List.map_map]at this
   exact this
  rw[h1]
  have:(xs.map (fun x=>Value.int .i64 x.1))=(xs.map (·.1)).map (Value.int .i64):=by simp[List.map_map]
  rw[this,List.nodup_iff_pairwise_ne,List.pairwise_map]
  exact(List.nodup_iff_pairwise_ne.1 hm.nd).imp (fun h e=>h (by simpa using e))
 ·intro x hx
  obtain⟨y,_,_,h3⟩:=hrd x hx
  exact⟨_,h3⟩
 ·have hp:=(WideShapes.sorted_perm (es.toList.map (rg P k unitR))).map (fun p:Lit×DataW Unit=>intOf p.1)
  show List.Perm (List.map (fun p:Lit×DataW Unit=>intOf p.1) _) _
  refine hp.trans ?_
  rw[List.map_map]
  have key : ∀ (l : List MapEntry) (ys : List (Int × Value)), (∀ x, x ∈ l → ∃ y, y ∈ xs ∧ x.key = .int .i64 y.1 ∧ Go.WideElems.rd P k unitR x = some (.int .i64 y.1, .agg [])) → l.map (fun e => (e.key, e.val)) = ys.map (fun x => (Value.int .i64 x.1, x.2)) → l.map ((fun p : Lit × DataW Unit => intOf p.1) ∘ rg P k unitR) = ys.map (·.1) := by
   intro l
   induction l with
   | nil=>intro ys _ h;cases ys<;>simp at h ⊢
   | cons x r ih =>
    intro ys h1 h2
    cases ys with
    | nil=>simp at h2
    | cons y t =>
     simp only[List.map_cons,List.cons.injEq,Prod.mk.injEq]at h2 ⊢
     obtain⟨z,_,h3,h4⟩:=h1 x (by simp)
     rw[h2.1.1]at h3
     simp only[Value.int.injEq,true_and]at h3
     refine⟨?_,ih t (fun q hq=>h1 q (by simp[hq])) h2.2⟩
     simp only[Function.comp,rg,h4,Option.getD_some,Go.intOf]
     exact h3.symm
  rw[key es.toList xs hrd hm.kv]
 ·simp only[Maps.size]
  rw[length_sorted]
  simp[hsz]
theorem sorts_of {G : PH} {xs : List (Int × Value)} {L : List BHeld} (hS : StR G xs L) (hL : Sp.VH L) {ss : List Int} (hp : ss.Perm (xs.map (·.1))) : ss.mergeSort (fun x y => decide (x ≤ y)) = L.map (·.id) := by
 have h1:(ss.mergeSort (fun x y=>decide (x≤y))).Perm (L.map (·.id)):=(List.mergeSort_perm _ _).trans (hp.trans hS.keys)
 have h2:(ss.mergeSort (fun x y=>decide (x≤y))).Pairwise (fun x y=>decide (x≤y)=true):=List.pairwise_mergeSort (le:=fun x y:Int=>decide (x≤y)) (fun a b c h1 h2=>by simp at *; omega) (fun a b=>by simp;omega) ss
 have h3 : (L.map (·.id)).Pairwise (fun x y => decide (x ≤ y) = true) := by
  rw[List.pairwise_map]
  exact hL.asc.imp (fun h=>decide_eq_true (by omega))
 exact h1.eq_of_pairwise (fun a b _ _ h1 h2=>by have:=of_decide_eq_true h1;have:=of_decide_eq_true h2;omega) h2 h3
theorem owns_acc {w w' : World} {e : TypeId} {v : Value} {n : Nat} {cells : List Value} (h : w'.ownsRow w.heap.size e 1 v n cells) : (acc e 1 v n cells).pred (fun b => w'.heap[b]?) ∧ (∀ b, b ∈ (acc e 1 v n cells).fp → w.heap.size ≤ b) := by
 obtain⟨h1,h2⟩:=h
 refine⟨⟨h1,?_⟩,?_⟩
 ·rcases h2 with h2|⟨g,cap,cur,rfl,_,h3,h4,h5,h6,h7⟩
  ·exact .inl h2
  ·exact .inr ⟨g,cap,cur,rfl,h3,h4,h5,Nat.le_of_eq h6.symm,h7⟩
 ·rcases h2 with ⟨rfl,_⟩|⟨g,cap,cur,rfl,h3,_⟩
  ·intro b hb;rw[acc_fp_nil]at hb;cases hb
  ·intro b hb;rw[acc_fp,List.mem_singleton]at hb;rw[hb];exact h3
end Fw
namespace Go.Proofs.Tst
open Go Fw Go.Proofs Go.Sort Go.Maps Go.Shelf Go.RowKit Tryz
theorem sorts (m:Nat):AnyZI.SortsIn Tryz.prog Tryz.sortedA_ren Fence.wide m :=
  ⟨fun blk off cap ss W hH hblk hsz => callsIn_wide.2 (AnyM.slices_Sort_int Tryz.sortA blk off cap ss W hH hblk hsz),
   fun p cap W=>callsIn_wide.2 (AnyM.slices_Sort_int_none Tryz.sortA p cap W)⟩
theorem keys_c (w0 : World) (G0 : PH) (hG : PSub G0 w0) (b : Nat) : Calls Tryz.prog 149 #[.map (some b)] w0 (fun e w' => ∃ kb, e = .returned (.func (.func 181) #[] #[.pointer (some ⟨kb, 0, none⟩)]) ∧ w0.heap.size ≤ kb ∧ Ext w0 w' ∧ w'.heap[kb]? = some (cl [.map (some b)] 135)) :=
  (callsIn_wide.1 (AnyZI.keys_in Tryz.keysA Fence.wide 5 trivial rfl (some b) w0)).mono fun e w' ⟨h1, h2⟩ => by
    subst h2
    exact⟨w0.heap.size,h1,Nat.le_refl _,Ext.alloc _ _,alloc_new _ _⟩
set_option maxHeartbeats 1000000 in
theorem sorted_c (w0:World)(Bm b:Nat){es:Array MapEntry}{clock:Nat}{xs:List (Int×Value)}{L:List BHeld}{G:PH}(hB:w0.heap[Bm]? = some (cl [.map (some b)] 135))(hb:w0.heap[b]? = some (.map es clock))(hm:MapIs (Value.int .i64) es clock xs)(hS:StR G xs L)(hL:Sp.VH L) :
    Calls Tryz.prog 148 #[.func (.func 181) #[] #[.pointer (some ⟨Bm,0,none⟩)]] w0 (fun e w'=>∃v,e= .returned v∧Ext w0 w'∧(acc 3 1 v L.length (L.map (fun h=>Value.int .i64 h.id))).pred (fun b=>w'.heap[b]?)∧(∀b,b ∈ (acc 3 1 v L.length (L.map (fun h=>Value.int .i64 h.id))).fp→w0.heap.size≤b)):=by
  have hlen:=hS.len
  have hw:∀x,x ∈ xs→inI x.1:=by
    intro x hx
    have:=hS.keys.mem_iff.1 (List.mem_map.2 ⟨x,hx,rfl⟩)
    obtain⟨h,hh,e⟩:=List.mem_map.1 this
    have:=(hL.ok h hh).1
    rw[←e]
    unfold inI
    omega
  have hl16:=hL.len
  obtain⟨D,hown,hp,hsz⟩:=owns_of (P:=Tryz.prog) (k:=3) (by exact underlying3) hb hm hw oM
  have hBl:=(Array.getElem?_eq_some_iff.1 hB).1
  have hseq : SeqGives Fence.wide 2 Tryz.prog 181 #[.pointer (some ⟨Bm, 0, none⟩)] encZ (fun ss => ss.Perm (intKeys D)) (Maps.size D) w0 :=
    AnyZI.keys_gives (ρ:=Tryz.keysA_ren) {Tryz.keysA with} Fence.wide _ trivial rfl oM Bm b xs.length D w0 hBl (by simp[World.cell?,hB]) hown
  refine(callsIn_wide.1 (AnyZI.sorted_in Tryz.sortedA Fence.wide 5 trivial trivial trivial trivial Z oM (sorts _) (enters_of func180 kR Z) 181 #[.pointer (some ⟨Bm,0,none⟩)] trivial (enters_of func181 kR Z) _ _ (by simp only[maxLen];omega) oM _ hseq)).mono ?_
  rintro e w' ⟨v,ss,rfl,hS1,hrow,hnil,hbel⟩
  have hs:=sorts_of hS hL (hS1.trans hp)
  have hn:ss.length=L.length:=by have:=(hS1.trans (hp.trans hS.keys)).length_eq;simpa using this
  rw[hs,hn]at hrow
  have he:(L.map (·.id)).map encZ=L.map (fun h=>Value.int .i64 h.id):=by rw[List.map_map];rfl
  rw[he]at hrow
  obtain⟨h1,h2⟩:=owns_acc hrow
  exact⟨v,Z,Ext.of_below hbel,h1,h2⟩
end Go.Proofs.Tst
namespace Go.Proofs.Tst
open Go Fw Go.Proofs
theorem l_Index_c (w0:World)(s:Bs)(hs:s.length≤16777216)(c:UInt8):Calls Tryz.prog 246 #[str s,str [c]] w0 (Rets w0 (.int .i64 (Sp.optI (s.findIdx? (Sp.isC c))))) :=
  (Any.strings_Index_one Tryz.lays143 ⟨s.toArray⟩ c w0).mono fun e w' ⟨h1,h2⟩=>⟨by rw[h1];simp[Sp.indexByte_eq],by rw[h2];exact Ext.refl _⟩
theorem l_Count_c (w0:World)(s:Bs)(hs:s.length≤16777216)(c:UInt8):Calls Tryz.prog 245 #[str s,str [c]] w0 (Rets w0 (.int .i64 (s.count c:Int))) :=
  (Any.strings_Count_one Tryz.lays138 ⟨s.toArray⟩ c w0).mono fun e w' ⟨h1,h2⟩=>⟨by rw[h1];simp[Lib.countByte],by rw[h2];exact Ext.refl _⟩
theorem chkIds (G : PH) {L : List BHeld} (h : Sp.VH L) : Chk intE 1 G (L.map (fun h => Value.int .i64 h.id)) (L.map (·.id)) := by
  refine⟨L.map (fun h=>[Value.int .i64 h.id]),?_,by simp,fun i x hx=>?_⟩
  · clear h
    induction L with
    | nil=>rfl
    | cons a r ih=>simp only[List.map_cons,List.flatten_cons,←ih];rfl
  rw[List.getElem?_map]at hx ⊢
  cases e:L[i]? with
  | none=>simp[e]at hx
  | some y =>
    simp only[e,Option.map_some,Option.some.injEq]at hx ⊢
    subst hx
    have:=(h.at e).1
    exact⟨_,rfl,rfl,rfl,by unfold inI;omega⟩
end Go.Proofs.Tst
