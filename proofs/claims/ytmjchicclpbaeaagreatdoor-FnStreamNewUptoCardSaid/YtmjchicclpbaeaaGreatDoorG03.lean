/- Part 3 of the proof: the program logic and plain functions. Conditions: none. -/
import Derived.Test.YtmjchicclpbaeaaGreatDoorG02
import Derived.Laws.OwnMore
import Derived.WalkSpells
import Derived.Lib.Bytealg
import Derived.Laws.IdiomCopy
import Derived.Lib.SliceRun
import Derived.Lib.AppendZeros
import Derived.Lib.Overlaps
import Derived.Conc.MuLone
import Derived.Laws.BytesArg
set_option linter.all false
set_option maxRecDepth 100000
set_option maxHeartbeats 8000000
namespace Fw
open Go
section ops
variable {P:Program} {n:Nat} {ops:Array Oper} {Q:Post} {rest:List Oper} {L:Slots} {ds:List Deferred} {w w0:World} {G0:PH} {S:List Nat} {G:PH} {B:List Res}
variable {ty:TypeId} {ps:String} {af:Array Edge}
theorem setBlk (H:Hp w0 G0 S w G B){k b:Nat}{o:Obj}(hk:nth B k=some (blk b o))(o':Obj):Hp w0 G0 S (ChangeMaps.setBlock w b o') G (setN B k (blk b o')):=by
 have hb:w.heap[b]? = some o:=(H.own _ (nth_mem hk)).1
 refine H.upd (w':=ChangeMaps.setBlock w b o') hk rfl rfl rfl (by simp[ChangeMaps.setBlock]) ?_ (blk b o') ?_ (by simp[blk]) (by simp[blk])
 ·intro c hc hn
  simp[blk]at hn
  have:¬b=c:=fun e=>hn e.symm
  simp[ChangeMaps.setBlock,this]
 ·show(ChangeMaps.setBlock w b o').heap[b]? = some o'
  have hl:=(Array.getElem?_eq_some_iff.1 hb).1
  simp[ChangeMaps.setBlock,hl]
theorem Hp.at (H:Hp w0 G0 S w G B){k b:Nat}{o:Obj}(hk:nth B k=some (blk b o)):w.heap[b]? = some o:=(H.own _ (nth_mem hk)).1
theorem o_makeMap (H:Hp w0 G0 S w G B){d:Nat}{t:TypeId}(hd:Nat.blt d n=true)
  (next:∀b w',w.heap.size≤b→Hp w0 G0 S w' G (blk b (.map #[] 0)::B)→R P n ops Q rest ((d,.map (some b))::L) ds w'):R P n ops Q (⟨some d,.makeMap t none,ty,ps,af,none⟩::rest) L ds w :=
 R_run hd (fun a ha => by
  simp only[execOp,Option.map_none,Instr.makeMap,Sem.run_bind,Sem.run_pure,Result.andThen_ok,newObj,Sem.run]
  rfl) (next w.heap.size (w.alloc (.map #[] 0)) (Nat.le_refl _) (H.add (Ext.alloc w _) (blk w.heap.size (.map #[] 0)) (alloc_new w _) (by simp[blk]) (by simp[blk])))
theorem o_lookS {d:Nat}{t k e:TypeId}{x y:Operand}{b:Nat}{es:Array MapEntry}{clock:Nat}{xs:List (Int×Value)}{L0:List BHeld}{id:Int}
  (hb:w.heap[b]? = some (.map es clock)) (hm:MapIs (Value.int .i64) es clock xs) (hS:StR G xs L0) (ht:P.underlying t=some (.map k e)) (hk:P.underlying k=some (.int .i64))
  (hz:∀w,(zeroValue e).run P w= .ok (.agg [.int .i64 0,.slice none 0 0,.int .i64 0].toArray) w) (hd:Nat.blt d n=true) (hx:od L x=some (.map (some b))) (hy:od L y=some (.int .i64 id))
  (next:∀cs,heldE G (getH L0 id) cs→R P n ops Q rest ((d,.agg cs.toArray)::L) ds w):R P n ops Q (⟨some d,.lookup t x y false,ty,ps,af,none⟩::rest) L ds w:=by
 obtain⟨cs,h1,h2,h3⟩:=hS.look' hm id
 exact R_run hd (fun a ha => by
  have:=run_lookup (keyInt hk) ht hz hb hm id false
  simp only[execOp,ha.eval hx,ha.eval hy,Sem.run_bind,this,Bool.false_eq_true,if_false,h1,Result.andThen_ok,Sem.run_pure]) (next cs h2)
theorem o_lookS2 {d:Nat}{t k e:TypeId}{x y:Operand}{b:Nat}{es:Array MapEntry}{clock:Nat}{xs:List (Int×Value)}{L0:List BHeld}{id:Int}
  (hb:w.heap[b]? = some (.map es clock)) (hm:MapIs (Value.int .i64) es clock xs) (hS:StR G xs L0) (ht:P.underlying t=some (.map k e)) (hk:P.underlying k=some (.int .i64))
  (hz:∀w,(zeroValue e).run P w= .ok (.agg [.int .i64 0,.slice none 0 0,.int .i64 0].toArray) w) (hd:Nat.blt d n=true) (hx:od L x=some (.map (some b))) (hy:od L y=some (.int .i64 id))
  (next:∀cs,heldE G (getH L0 id) cs→R P n ops Q rest ((d,.tuple #[.agg cs.toArray,.bool (Sp.atH L0 id).isSome])::L) ds w):R P n ops Q (⟨some d,.lookup t x y true,ty,ps,af,none⟩::rest) L ds w:=by
 obtain⟨cs,h1,h2,h3⟩:=hS.look' hm id
 exact R_run hd (fun a ha => by
  have:=run_lookup (keyInt hk) ht hz hb hm id true
  simp only[execOp,ha.eval hx,ha.eval hy,Sem.run_bind,this,if_true,h1,h3,Result.andThen_ok,Sem.run_pure]) (next cs h2)
theorem o_updS (k0:Nat)(H:Hp w0 G0 S w G B){t k e:TypeId}{x y z:Operand}{b:Nat}{es:Array MapEntry}{clock:Nat}{xs:List (Int×Value)}{L0:List BHeld}{id:Int}{cs:List Value}(h0:BHeld)
  (hk0:nth B k0=some (blk b (.map es clock))) (hm:MapIs (Value.int .i64) es clock xs) (hS:StR G xs L0) (ht:P.underlying t=some (.map k e)) (hk:P.underlying k=some (.int .i64))
  (hx:od L x=some (.map (some b))) (hy:od L y=some (.int .i64 id)) (hz:od L z=some (.agg cs.toArray)) (hE:heldE G h0 cs) (hid:id=h0.id)
  (next:∀es' clock' xs' w',Hp w0 G0 S w' G (setN B k0 (blk b (.map es' clock')))→MapIs (Value.int .i64) es' clock' xs'→StR G xs' (updH L0 h0)→R P n ops Q rest L ds w') :
  R P n ops Q (⟨none,.mapUpdate t x y z,ty,ps,af,none⟩::rest) L ds w:=by
 subst hid
 obtain⟨es',clock',hr,hm'⟩:=run_mapUpdate (P:=P) (keyInt hk) ht (H.at hk0) hm h0.id (.agg cs.toArray)
 exact R_skip (fun a ha => by
  simp only[execOp,ha.eval hx,ha.eval hy,ha.eval hz,Sem.run_map,Sem.run_bind,hr]
  rfl) (next es' clock' _ _ (setBlk H hk0 _) hm' (hS.upd hm hE))
theorem o_delS (k0:Nat)(H:Hp w0 G0 S w G B){t k k2 e:TypeId}{x y:Operand}{b:Nat}{es:Array MapEntry}{clock:Nat}{xs:List (Int×Value)}{L0:List BHeld}{id:Int}
  (hk0:nth B k0=some (blk b (.map es clock))) (hm:MapIs (Value.int .i64) es clock xs) (hS:StR G xs L0) (ht:P.underlying t=some (.map k e)) (hk:P.underlying k=some (.int .i64))
  (hx:od L x=some (.map (some b))) (hy:od L y=some (.int .i64 id))
  (next:∀es' clock' xs' w',Hp w0 G0 S w' G (setN B k0 (blk b (.map es' clock')))→MapIs (Value.int .i64) es' clock' xs'→StR G xs' (delH L0 id)→R P n ops Q rest L ds w') :
  R P n ops Q (⟨none,.call ⟨.builtin .delete,#[x,y],#[t,k2]⟩,ty,ps,af,none⟩::rest) L ds w:=by
 obtain⟨es',clock',hr,hm'⟩:=run_mapDelete (P:=P) (keyInt hk) ht (H.at hk0) hm id ty k2
 intro a ha
 refine wpList_plain rfl fun K hK=>?_
 unfold Oper.wp
 have:(execOp a.eval ⟨none,.call ⟨.builtin .delete,#[x,y],#[t,k2]⟩,ty,ps,af,none⟩).run P w= .ok (.value (.tuple #[])) (ChangeMaps.setBlock w b (.map es' clock')):=by
  simp[execOp,resolve,invoke,builtin,ha.eval hx,ha.eval hy,hr]
 rw[this]
 exact hK _ _ (next es' clock' _ _ (setBlk H hk0 _) hm' (hS.del hm id) _ (ha.put_none _))
theorem o_lenM {d:Nat}{t k e:TypeId}{x:Operand}{b:Nat}{κ:Type} [DecidableEq κ] {key:κ→Value}{es:Array MapEntry}{clock:Nat}{xs:List (κ×Value)}
  (hb:w.heap[b]? = some (.map es clock)) (hm:MapIs key es clock xs) (ht:P.underlying t=some (.map k e)) (hd:Nat.blt d n=true) (hx:od L x=some (.map (some b)))
  (next:R P n ops Q rest ((d,.int .i64 xs.length)::L) ds w):R P n ops Q (⟨some d,.call ⟨.builtin .len,#[x],#[t]⟩,ty,ps,af,none⟩::rest) L ds w :=
 R_run hd (fun a ha=>by simp[execOp,resolve,invoke,builtin,ha.eval hx,run_maplen ht hb hm]) next
def UsR (xs:List (Int×Value))(f:Int→Nat):Prop:=∀a,(look xs a).getD (.int .i64 0)= .int .i64 (f a:Int)
theorem UsR.nil:UsR [] (fun _=>0):=fun a=>by simp[look,fnd]
theorem look_upd {es : Array MapEntry} {clock : Nat} {xs : List (Int × Value)} (hm : MapIs (Value.int .i64) es clock xs) (a : Int) (v : Value) {es' : Array MapEntry} {clock' : Nat} (hm' : MapIs (Value.int .i64) es' clock' (upd xs a v)) (c : Int) : look (upd xs a v) c = if c = a then some v else look xs c := by
 have hp:=upd_perm hm.nd a v
 by_cases e:c=a
 ·subst e
  simp only[if_true]
  exact look_mem hm'.nd (hp.mem_iff.2 (by simp))
 ·simp only[e,if_false]
  cases h:look xs c with
  | none =>
   refine look_none' (fun hc=>?_)
   obtain⟨x,hx,rfl⟩:=List.mem_map.1 hc
   rcases List.mem_cons.1 (hp.mem_iff.1 hx) with rfl|hx
   ·exact e rfl
   ·exact look_none h (List.mem_map.2 ⟨x,(List.mem_filter.1 hx).1,rfl⟩)
  | some u=>exact look_mem hm'.nd (hp.mem_iff.2 (List.mem_cons.2 (.inr (List.mem_filter.2 ⟨look_mem' h,by simpa using e⟩))))
theorem o_lookU {d:Nat}{t k e:TypeId}{x y:Operand}{b:Nat}{es:Array MapEntry}{clock:Nat}{xs:List (Int×Value)}{f:Int→Nat}{id:Int}
  (hb:w.heap[b]? = some (.map es clock)) (hm:MapIs (Value.int .i64) es clock xs) (hU:UsR xs f) (ht:P.underlying t=some (.map k e)) (hk:P.underlying k=some (.int .i64))
  (hz:∀w,(zeroValue e).run P w= .ok (.int .i64 0) w) (hd:Nat.blt d n=true) (hx:od L x=some (.map (some b))) (hy:od L y=some (.int .i64 id))
  (next:R P n ops Q rest ((d,.int .i64 (f id:Int))::L) ds w):R P n ops Q (⟨some d,.lookup t x y false,ty,ps,af,none⟩::rest) L ds w :=
 R_run hd (fun a ha => by
  have:=run_lookup (keyInt hk) ht hz hb hm id false
  simp only[execOp,ha.eval hx,ha.eval hy,Sem.run_bind,this,Bool.false_eq_true,if_false,hU id,Result.andThen_ok,Sem.run_pure]) next
theorem o_updU (k0:Nat)(H:Hp w0 G0 S w G B){t k e:TypeId}{x y z:Operand}{b:Nat}{es:Array MapEntry}{clock:Nat}{xs:List (Int×Value)}{f:Int→Nat}{id v:Int}(u:Nat)
  (hk0:nth B k0=some (blk b (.map es clock))) (hm:MapIs (Value.int .i64) es clock xs) (hU:UsR xs f) (ht:P.underlying t=some (.map k e)) (hk:P.underlying k=some (.int .i64))
  (hx:od L x=some (.map (some b))) (hy:od L y=some (.int .i64 id)) (hz:od L z=some (.int .i64 v)) (hv:v=(u:Int))
  (next:∀es' clock' xs' w',Hp w0 G0 S w' G (setN B k0 (blk b (.map es' clock')))→MapIs (Value.int .i64) es' clock' xs'→UsR xs' (fun a=>if a=id then u else f a)→R P n ops Q rest L ds w') :
  R P n ops Q (⟨none,.mapUpdate t x y z,ty,ps,af,none⟩::rest) L ds w:=by
 subst hv
 obtain⟨es',clock',hr,hm'⟩:=run_mapUpdate (P:=P) (keyInt hk) ht (H.at hk0) hm id (.int .i64 (u:Int))
 refine R_skip (fun a ha => by
  simp only[execOp,ha.eval hx,ha.eval hy,ha.eval hz,Sem.run_map,Sem.run_bind,hr]
  rfl) (next es' clock' _ _ (setBlk H hk0 _) hm' (fun a=>?_))
 rw[look_upd hm id _ hm']
 by_cases e:a=id
 ·simp[e]
 ·simp only[e,if_false];exact hU a
def seenH (es:Array MapEntry)(seen:Array Nat)(y:BHeld):Prop:=∃e,e ∈ es.toList∧e.key= .int .i64 y.id∧e.born ∈ seen
theorem o_range (H:Hp w0 G0 S w G B){d:Nat}{t k e:TypeId}{x:Operand}{b:Nat}{es:Array MapEntry}{clock:Nat}(hb:w.heap[b]? = some (.map es clock))(ht:P.underlying t=some (.map k e))(hd:Nat.blt d n=true)(hx:od L x=some (.map (some b)))
  (next:∀r w',w.heap.size≤r→Hp w0 G0 S w' G (blk r (.mapIter (some b) clock #[] clock)::B)→w'.heap[b]? = some (.map es clock)→R P n ops Q rest ((d,.pointer (some ⟨r,0,none⟩))::L) ds w') :
  R P n ops Q (⟨some d,.range t x,ty,ps,af,none⟩::rest) L ds w :=
 R_run (w' := w.alloc (.mapIter (some b) clock #[] clock)) hd (fun a ha => by
  simp only[execOp,ha.eval hx,Instr.range,Sem.run_map,Sem.run_bind,run_underlying ht,Result.andThen_ok,getObj_at hb,Sem.run_pure,newObj,Sem.run]
  rfl) (next w.heap.size _ (Nat.le_refl _) (H.add (Ext.alloc w _) (blk w.heap.size _) (alloc_new w _) (by simp [blk]) (by simp [blk])) (by
   rw[(Ext.alloc w _).block b (Array.getElem?_eq_some_iff.1 hb).1];exact hb))
theorem leftOf_mem {es:Array MapEntry}{seen:Array Nat}{e:MapEntry}:e ∈ (leftOf es seen).toList↔e ∈ es.toList∧e.born ∉ seen:=by
 simp[leftOf]
theorem leftOf_less {es:Array MapEntry}{seen:Array Nat}{e:MapEntry}(h:e ∈ (leftOf es seen).toList):(leftOf es (seen.push e.born)).size<(leftOf es seen).size:=by
 have key : ∀ l : List MapEntry, e ∈ l → e.born ∉ seen → (l.filter (fun x => !(seen.push e.born).contains x.born)).length < (l.filter (fun x => !seen.contains x.born)).length := by
  intro l
  have le : ∀ l : List MapEntry, (l.filter (fun x => !(seen.push e.born).contains x.born)).length ≤ (l.filter (fun x => !seen.contains x.born)).length := by
   intro l
   induction l with
   | nil=>simp
   | cons x r ih =>
    simp only[List.filter_cons]
    by_cases h1:x.born ∈ seen
    ·have h2:x.born ∈ seen.push e.born:=by simp[h1]
     simpa [h1,h2] using ih
    ·by_cases h2:x.born=e.born
     ·have h3:x.born ∈ seen.push e.born:=by simp[h2]
      simp[h1,h3]
      simp at ih
      omega
     ·have h3:¬x.born ∈ seen.push e.born:=by simp[h1,h2]
      simp[h1,h3]
      simpa using ih
  induction l with
  | nil=>simp
  | cons x r ih =>
   intro hm hn
   rcases List.mem_cons.1 hm with rfl|hm
   ·have h3:e.born ∈ seen.push e.born:=by simp
    have:=le r
    simp[List.filter_cons,hn,h3]
    simp at this
    omega
   ·have ih:=ih hm hn
    simp only[List.filter_cons]
    by_cases h1:x.born ∈ seen
    ·have h2:x.born ∈ seen.push e.born:=by simp[h1]
     simpa [h1,h2] using ih
    ·by_cases h2:x.born=e.born
     ·have h3:x.born ∈ seen.push e.born:=by simp[h2]
      simp[h1,h3]
      simp at ih
      omega
     ·have h3:¬x.born ∈ seen.push e.born:=by simp[h1,h2]
      simp[h1,h3]
      simpa using ih
 have hm:=leftOf_mem.1 h
 have:=key es.toList hm.1 hm.2
 unfold leftOf
 have e1:∀q:MapEntry→Bool,(es.filter q).size=(es.toList.filter q).length:=fun q=>by rw[←Array.toList_filter,Array.length_toList]
 rw[e1,e1]
 exact this
theorem o_next (k0:Nat)(H:Hp w0 G0 S w G B){d:Nat}{x:Operand}{b r:Nat}{seen:Array Nat}{es:Array MapEntry}{clock:Nat}{xs:List (Int×Value)}{L0:List BHeld}
  (hb:w.heap[b]? = some (.map es clock)) (hm:MapIs (Value.int .i64) es clock xs) (hS:StR G xs L0) (hk0:nth B k0=some (blk r (.mapIter (some b) clock seen clock))) (hrb:r≠b) (hd:Nat.blt d n=true) (hx:od L x=some (.pointer (some ⟨r,0,none⟩)))
  (over:(∀y,y ∈ L0→seenH es seen y)→R P n ops Q rest ((d,.tuple #[.bool false])::L) ds w)
  (step:∀e y cs w',e ∈ es.toList→e.key= .int .i64 y.id→e.val= .agg cs.toArray→y ∈ L0→heldE G y cs→w'.heap[b]? = some (.map es clock)→(leftOf es (seen.push e.born)).size<(leftOf es seen).size →
   Hp w0 G0 S w' G (setN B k0 (blk r (.mapIter (some b) clock (seen.push e.born) clock)))→R P n ops Q rest ((d,.tuple #[.bool true,.int .i64 y.id,.agg cs.toArray])::L) ds w') :
  R P n ops Q (⟨some d,.next x false,ty,ps,af,none⟩::rest) L ds w:=by
 rcases run_next_at (P:=P) w ty r b clock clock seen es clock (H.at hk0) hb hm.lt (Nat.le_refl _) with ⟨h1,h2⟩|⟨e,he,w1,hw,h2⟩
 ·refine R_run hd (fun a ha=>?_) (over (fun y hy=>?_))
  ·simp only[execOp,ha.eval hx,Sem.run_bind,h2,Result.andThen_ok,Sem.run_pure]
  ·obtain ⟨x, hx, h3⟩ : ∃ x, x ∈ xs ∧ x.1 = y.id := by
    have:=hS.keys.mem_iff.2 (List.mem_map.2 ⟨y,hy,rfl⟩)
    obtain⟨x,h3,h4⟩:=List.mem_map.1 this
    exact⟨x,h3,h4⟩
   have:(Value.int .i64 x.1,x.2) ∈ es.toList.map (fun e=>(e.key,e.val)):=by rw[hm.kv];exact List.mem_map.2 ⟨x,hx,rfl⟩
   obtain⟨e,he,h4⟩:=List.mem_map.1 this
   simp only[Prod.mk.injEq]at h4
   refine⟨e,he,by rw[h4.1,h3],?_⟩
   have hz:(leftOf es seen)= #[]:=Array.eq_empty_of_size_eq_zero h1
   refine Classical.byContradiction fun hn=>?_
   have:=leftOf_mem.2 ⟨he,hn⟩
   rw[hz]at this
   simp at this
 ·have hel:=(leftOf_mem.1 he)
  have:(e.key,e.val) ∈ xs.map (fun x=>(Value.int .i64 x.1,x.2)):=by rw[←hm.kv];exact List.mem_map.2 ⟨e,hel.1,rfl⟩
  obtain⟨x,hx1,hx2⟩:=List.mem_map.1 this
  simp only[Prod.mk.injEq]at hx2
  obtain⟨y,cs,hy,hid,hv,hE⟩:=hS.entry (a:=x.1) (v:=x.2) hx1
  have hkey:e.key= .int .i64 y.id:=by rw[←hx2.1,hid]
  have hval:e.val= .agg cs.toArray:=by rw[←hx2.2,hv]
  have Hw:Hp w0 G0 S w1 G B:=by
   rcases hw with rfl|rfl
   ·exact H
   ·exact H.step (Ext.refl w).drew
  refine R_run (w':=ChangeMaps.setBlock w1 r (.mapIter (some b) clock (seen.push e.born) clock)) hd (fun a ha=>?_) (step e y cs _ hel.1 hkey hval hy hE ?_ (leftOf_less he) (setBlk Hw hk0 _))
  ·simp only[execOp,ha.eval hx,Sem.run_bind,h2,hkey,hval,Result.andThen_ok,Sem.run_pure]
  ·have hb1:w1.heap[b]? = some (.map es clock):=by rcases hw with rfl|rfl<;>exact hb
   simpa [ChangeMaps.setBlock,hrb] using hb1
theorem o_entry (k0:Nat)(H:Hp w0 G0 S w G B){d:Nat}{x:Operand}{b r:Nat}{seen:Array Nat}{es:Array MapEntry}{clock:Nat}{xs:List (Int×Value)}{e:MapEntry}{id:Int}{cs:List Value}
  (hb:w.heap[b]? = some (.map es clock)) (hm:MapIs (Value.int .i64) es clock xs) (hk0:nth B k0=some (blk r (.mapIter (some b) clock (seen.push e.born) clock))) (he:e ∈ es.toList) (hkey:e.key= .int .i64 id) (hval:e.val= .agg cs.toArray) (hd:Nat.blt d n=true) (hx:od L x=some (.pointer (some ⟨r,0,none⟩)))
  (next:R P n ops Q rest ((d,.tuple #[.int .i64 id,.agg cs.toArray])::L) ds w):R P n ops Q (⟨some d,.entry x,ty,ps,af,none⟩::rest) L ds w :=
 R_run hd (fun a ha => by
  have:=run_entry_at (P:=P) w r b clock seen es clock e (H.at hk0) hb he hm.born
  simp only[execOp,ha.eval hx,Sem.run_bind,this,hkey,hval,Result.andThen_ok,Sem.run_pure]) next
theorem seenH_push {es:Array MapEntry}{clock:Nat}{xs:List (Int×Value)}{L0:List BHeld}{seen:Array Nat}{e:MapEntry}{y y':BHeld}(hm:MapIs (Value.int .i64) es clock xs)(hnd:(L0.map (·.id)).Nodup)(he:e ∈ es.toList)(hkey:e.key= .int .i64 y.id)(hy:y ∈ L0)(hy':y' ∈ L0)(h:seenH es (seen.push e.born) y'):y'=y∨seenH es seen y':=by
 obtain⟨e',h1,h2,h3⟩:=h
 rcases Array.mem_push.1 h3 with h3|h3
 ·exact .inr ⟨e',h1,h2,h3⟩
 ·left
  have key:∀(l:List MapEntry),(l.map (·.born)).Nodup→e ∈ l→e' ∈ l→e'.born=e.born→e'=e:=by
   intro l
   induction l with
   | nil=>simp
   | cons z r ih =>
    intro nd a b c
    simp only[List.map_cons,List.nodup_cons]at nd
    rcases List.mem_cons.1 a with rfl|a1<;>rcases List.mem_cons.1 b with rfl|b1
    ·rfl
    ·exact(nd.1 (List.mem_map.2 ⟨e',b1,c⟩)).elim
    ·exact(nd.1 (List.mem_map.2 ⟨e,a1,c.symm⟩)).elim
    ·exact ih nd.2 a1 b1 c
  have hee:=key _ hm.born he h1 h3
  subst hee
  rw[hkey]at h2
  simp only[Value.int.injEq,true_and]at h2
  have inj:∀(l:List BHeld),(l.map (·.id)).Nodup→y ∈ l→y' ∈ l→y.id=y'.id→y'=y:=by
   intro l
   induction l with
   | nil=>simp
   | cons z r ih =>
    intro nd a b c
    simp only[List.map_cons,List.nodup_cons]at nd
    rcases List.mem_cons.1 a with rfl|a1<;>rcases List.mem_cons.1 b with rfl|b1
    ·rfl
    ·exact(nd.1 (List.mem_map.2 ⟨y',b1,c.symm⟩)).elim
    ·exact(nd.1 (List.mem_map.2 ⟨y,a1,c⟩)).elim
    ·exact ih nd.2 a1 b1 c
  exact inj L0 hnd hy hy' h2
end ops
theorem rep_flat {α:Type}(z:List α):∀n,rep n z=(List.replicate n z).flatten
 | 0=>by simp[rep]
 | n+1=>by simp[rep,rep_flat z n,List.replicate_succ]
theorem Chk.rep {α:Type}{E:PH→α→List Value→Prop}{sz:Nat}{G:PH}{z:List Value}{x0:α}(h:E G x0 z)(hl:z.length=sz)(n:Nat):Chk E sz G (Fw.rep n z) (List.replicate n x0):=by
 refine⟨List.replicate n z,rep_flat z n,by simp,fun i x hx=>?_⟩
 rw[List.getElem?_replicate]at hx ⊢
 split at hx
 ·simp only[Option.some.injEq]at hx
  subst hx
  rename_i hlt
  exact⟨z,by simp[hlt],hl,h⟩
 ·cases hx
theorem acc_1 {e:TypeId}{sz:Nat}{v:Value}{n m:Nat}{c:List Value}{B:List Res}(h:n=m):acc e sz v n c::B=acc e sz v m c::B:=by rw[h]
theorem chkI {G G':PH}{c:List Value}{xs:List Int}(h:Chk intE 1 G c xs):Chk intE 1 G' c xs:=h.mono (fun _ _ h=>h)
section ops
variable {P:Program} {n:Nat} {ops:Array Oper} {Q:Post} {rest:List Oper} {L:Slots} {ds:List Deferred} {w w0:World} {G0:PH} {S:List Nat} {G:PH} {B:List Res}
variable {ty:TypeId} {ps:String} {af:Array Edge}
theorem o_make0 (H:Hp w0 G0 S w G B){d:Nat}{t e:TypeId}{i:TypeInfo}{sz bytes:Nat}{x y:Operand}{c:Nat}{p q:Int}(hU:P.underlying t=some (.slice e))(hI:∀w,(typeInfo e).run P w= .ok i w)(hz:∃z,i.zero=some z∧(vc z).length=sz)(hs:i.size=sz)(hby:i.bytes=bytes)(hd:Nat.blt d n=true)
  (hx:od L x=some (.int .i64 p)) (hy:od L y=some (.int .i64 q)) (hp:p=0) (hq:q=(c:Int)) (hb:c≤2199023255552) (hb2:Nat.ble bytes 64=true)
  (next:∀b w',Hp w0 G0 S w' G (acc e sz (.slice (some ⟨b,0,none⟩) 0 c) 0 []::B)→R P n ops Q rest ((d,.slice (some ⟨b,0,none⟩) 0 c)::L) ds w'):R P n ops Q (⟨some d,.makeSlice t x y,ty,ps,af,none⟩::rest) L ds w:=by
 subst hp hq
 obtain⟨z,hz1,hz2⟩:=hz
 have hb2':bytes≤64:=by simpa using hb2
 have hbb:i.bytes*c≤281474976710656:=by
  rw[hby]
  calc bytes * c ≤ 64 * 2199023255552 := Nat.mul_le_mul hb2' hb
   _≤_:=by decide
 obtain⟨w',hr,hown,hg⟩:=run_make_own (P:=P) w w.heap.size t e i z sz hU (info_of hI) hz1 hs .i64 .i64 c hbb (by simp only[maxLen];omega) (Nat.le_refl _)
 have E:Ext w w':=⟨hg.os,hg.tape,hg.output,hg.size,fun b hb=>hg.block b hb (by simp)⟩
 obtain⟨h1,h2⟩:=hown
 have hpred : (acc e sz (.slice (some ⟨w.heap.size, 0, none⟩) 0 c) 0 []).pred (fun b => w'.heap[b]?) := by
  refine⟨h1,?_⟩
  rcases h2 with ⟨h2,_⟩|⟨g,cap,cur,h2,_,h3,h4,h5,h6,h7⟩
  ·cases h2
  ·exact .inr ⟨g,cap,cur,h2,h3,h4,h5,Nat.le_of_eq h6.symm,h7⟩
 exact R_run hd (fun a ha=>by simp[execOp,ha.eval hx,ha.eval hy,hr]) (next _ w' (H.add E _ hpred (fun b hb=>by rw[acc_fp,List.mem_singleton]at hb;exact Nat.le_of_eq hb.symm) (acc_nd _ _ _ _ _)))
theorem o_makeN (H:Hp w0 G0 S w G B){d:Nat}{t e:TypeId}{i:TypeInfo}{sz bytes:Nat}{x y:Operand}{c:Nat}{p q:Int}{zl:List Value}(hU:P.underlying t=some (.slice e))(hI:∀w,(typeInfo e).run P w= .ok i w)(hz:∃z,i.zero=some z∧vc z=zl)(hzl:Nat.beq zl.length sz=true)(hs:i.size=sz)(hby:i.bytes=bytes)(hsz:Nat.blt 0 sz=true)(hd:Nat.blt d n=true)
  (hx:od L x=some (.int .i64 p)) (hy:od L y=some (.int .i64 q)) (hp:p=(c:Int)) (hq:q=(c:Int)) (hb:c≤2199023255552) (hb2:Nat.ble bytes 64=true)
  (next:∀b w',Hp w0 G0 S w' G (acc e sz (.slice (some ⟨b,0,none⟩) c c) c (rep c zl)::B)→R P n ops Q rest ((d,.slice (some ⟨b,0,none⟩) c c)::L) ds w'):R P n ops Q (⟨some d,.makeSlice t x y,ty,ps,af,none⟩::rest) L ds w:=by
 subst hp hq
 obtain⟨z,hz1,rfl⟩:=hz
 have hzl':(vc z).length=sz:=Nat.eq_of_beq_eq_true hzl
 have hsz':0<sz:=by simpa using hsz
 have hb2':bytes≤64:=by simpa using hb2
 have hbb:i.bytes*c≤281474976710656:=by
  rw[hby]
  calc bytes * c ≤ 64 * 2199023255552 := Nat.mul_le_mul hb2' hb
   _≤_:=by decide
 obtain⟨w',hr,hown,hg⟩:=run_make_full (P:=P) w w.heap.size t e i z sz hU (info_of hI) hz1 hs .i64 .i64 c hbb (by simp only[maxLen];omega) (Nat.le_refl _)
 have E:Ext w w':=⟨hg.os,hg.tape,hg.output,hg.size,fun b hb=>hg.block b hb (by simp)⟩
 obtain⟨h1,h2⟩:=hown
 have hcells:(madeCells z.cells (c*sz)).toList=rep c (vc z):=by
  have:=made_eq (vc z) c (by omega)
  rw[vc_eq,←hzl']
  exact congrArg Array.toList this
 rw[hcells]at h1 h2
 have hpred : (acc e sz (.slice (some ⟨w.heap.size, 0, none⟩) c c) c (rep c (vc z))).pred (fun b => w'.heap[b]?) := by
  refine⟨h1,?_⟩
  rcases h2 with ⟨h2,_⟩|⟨g,cap,cur,h2,_,h3,h4,h5,h6,h7⟩
  ·cases h2
  ·exact .inr ⟨g,cap,cur,h2,h3,h4,h5,Nat.le_of_eq h6.symm,h7⟩
 exact R_run hd (fun a ha=>by simp[execOp,ha.eval hx,ha.eval hy,hr]) (next _ w' (H.add E _ hpred (fun b hb=>by rw[acc_fp,List.mem_singleton]at hb;exact Nat.le_of_eq hb.symm) (acc_nd _ _ _ _ _)))
theorem o_field (off:Nat){d:Nat}{t u:TypeId}{x:Operand}{k:Nat}{l:List Value}{fields:Array Field}{f:Field}{v:Value}(hU:∀w,(underlying t).run P w= .ok (.struct fields) w)(hf:fields[k]? = some f)(hu:f.type=u)(ho:Nat.beq f.offset off=true)
  (hA:∀w,(isAgg u).run P w= .ok false w) (hd:Nat.blt d n=true) (hx:od L x=some (.agg l.toArray)) (hv:nth l off=some v)
  (next:R P n ops Q rest ((d,v)::L) ds w):R P n ops Q (⟨some d,.field t x k,ty,ps,af,none⟩::rest) L ds w :=
 R_run hd (fun a ha => by
  have:=Nat.eq_of_beq_eq_true ho
  subst this hu
  rw[nth_eq]at hv
  have e:asAgg (.agg l.toArray)=pure l.toArray:=rfl
  simp[execOp,ha.eval hx,Instr.field,hU,hf,e,part,hA,hv]) next
end ops
section ops
variable {P:Program} {n:Nat} {ops:Array Oper} {Q:Post} {rest:List Oper} {L:Slots} {ds:List Deferred} {w w0:World} {G0:PH} {S:List Nat} {G:PH} {B:List Res}
variable {ty:TypeId} {ps:String} {af:Array Edge}
theorem guard_slice {op:BinOp}{t:TypeId}{x y:Operand}{a:Option Addr}{m c:Nat}{b:Value}:(eqGuard op t x y (.slice a m c) b).run P w= .ok () w:=by
 cases op<;>rfl
theorem guard_ptr {op:BinOp}{t:TypeId}{x y:Operand}{a:Option Addr}{b:Value}:(eqGuard op t x y (.pointer a) b).run P w= .ok () w:=by
 cases op<;>rfl
theorem o_eqnil_slice {d:Nat}{x y:Operand}{t u e:TypeId}{a:Option Addr}{m c m' c':Nat}(hU:P.underlying t=some (.slice e))(hd:Nat.blt d n=true)(hx:od L x=some (.slice a m c))(hy:od L y=some (.slice none m' c'))
  (next:R P n ops Q rest ((d,.bool a.isNone)::L) ds w):R P n ops Q (⟨some d,.binOp .eql t x y u,ty,ps,af,none⟩::rest) L ds w :=
 R_run hd (fun f ha => by
  have h1:(binOp .eql t (.slice a m c) (.slice none m' c')).run P w= .ok (.bool a.isNone) w:=by
   cases a with
   | none=>exact run_eql_nil_slice w t e none m' c' m c hU
   | some p =>
    simp only[binOp,Op.equal,Op.maxDepth]
    simp[Lib.run_equalIn_slice_nil w 9999 t e (some p) m c m' c' hU]
  simp[execOp,ha.eval hx,ha.eval hy,guard_slice,h1]) next
theorem o_eqnil_ptr {d:Nat}{x y:Operand}{t u e:TypeId}{p:Option Addr}(hU:P.underlying t=some (.pointer e))(hd:Nat.blt d n=true)(hx:od L x=some (.pointer p))(hy:od L y=some (.pointer none))
  (next:R P n ops Q rest ((d,.bool p.isNone)::L) ds w):R P n ops Q (⟨some d,.binOp .eql t x y u,ty,ps,af,none⟩::rest) L ds w :=
 R_run hd (fun f ha => by
  have h1:(binOp .eql t (.pointer p) (.pointer none)).run P w= .ok (.bool p.isNone) w:=run_eql_pointer_nil w t p (by simp[Program.pointee,hU])
  simp[execOp,ha.eval hx,ha.eval hy,guard_ptr,h1]) next
theorem o_nenil_ptr {d:Nat}{x y:Operand}{t u e:TypeId}{p:Option Addr}(hU:P.underlying t=some (.pointer e))(hd:Nat.blt d n=true)(hx:od L x=some (.pointer p))(hy:od L y=some (.pointer none))
  (next:R P n ops Q rest ((d,.bool (!p.isNone))::L) ds w):R P n ops Q (⟨some d,.binOp .neq t x y u,ty,ps,af,none⟩::rest) L ds w :=
 R_run hd (fun f ha => by
  have h1:(binOp .neq t (.pointer p) (.pointer none)).run P w= .ok (.bool (!p.isNone)) w:=run_neq_pointer_nil w t p (by simp[Program.pointee,hU])
  simp[execOp,ha.eval hx,ha.eval hy,guard_ptr,h1]) next
theorem o_cap {d:Nat}{x:Operand}{t e:TypeId}{a:Option Addr}{m c:Nat}(hT:P.underlying t=some (.slice e))(hd:Nat.blt d n=true)(hx:od L x=some (.slice a m c))
  (next:R P n ops Q rest ((d,.int .i64 c)::L) ds w):R P n ops Q (⟨some d,.call ⟨.builtin .cap,#[x],#[t]⟩,ty,ps,af,none⟩::rest) L ds w :=
 R_run hd (fun b hb=>by simp[execOp,resolve,invoke,builtin,hb.eval hx,Builtin.cap_,run_underlying hT,goInt]) next
end ops
end Fw
namespace Sp
open Go Fw
def isC (c:UInt8)(x:UInt8):Bool:=decide (x=c)
def cutAt (c:UInt8):Bs→List Bs
 | []=>[[]]
 | x :: r => if x = c then [] :: cutAt c r else match cutAt c r with
  | []=>[[x]]
  | w::ws=>(x::w)::ws
theorem cutAt_47:∀s,cutAt 47 s=cut s
 | []=>rfl
 | x :: r => by
  simp only[cutAt,cut,cutAt_47 r]
  all_goals (split<;>rfl)
theorem idx_cons (c x : UInt8) (r : Bs) : (x :: r).findIdx? (isC c) = if x = c then some 0 else (r.findIdx? (isC c)).map (· + 1) := by
 rw[List.findIdx?_cons]
 simp only[isC,decide_eq_true_eq]
theorem cutAt_some (c:UInt8):∀{s:Bs} {m:Nat},s.findIdx? (isC c)=some m→cutAt c s=s.take m::cutAt c (s.drop (m+1))
 | [],m,h=>by simp at h
 | x :: r, m, h => by
  rw[idx_cons]at h
  by_cases e:x=c
  ·simp only[e,if_true,Option.some.injEq]at h
   subst h
   simp[cutAt,e]
  ·simp only[e,if_false,Option.map_eq_some_iff]at h
   obtain⟨j,h1,rfl⟩:=h
   have:=cutAt_some c h1
   simp only[cutAt,e,if_false,this,List.take_succ_cons,List.drop_succ_cons]
theorem cutAt_none (c:UInt8):∀{s:Bs},s.findIdx? (isC c)=none→cutAt c s=[s]
 | [],_=>rfl
 | x :: r, h => by
  rw[idx_cons]at h
  by_cases e:x=c
  ·simp[e]at h
  ·simp only[e,if_false,Option.map_eq_none_iff]at h
   simp only[cutAt,e,if_false,cutAt_none c h]
theorem count_some (c:UInt8):∀{s:Bs} {m:Nat},s.findIdx? (isC c)=some m→s.count c=(s.drop (m+1)).count c+1
 | [],m,h=>by simp at h
 | x :: r, m, h => by
  rw[idx_cons]at h
  by_cases e:x=c
  ·simp only[e,if_true,Option.some.injEq]at h
   subst h
   simp[e]
  ·simp only[e,if_false,Option.map_eq_some_iff]at h
   obtain⟨j,h1,rfl⟩:=h
   have:=count_some c h1
   rw[List.count_cons_of_ne e,this,List.drop_succ_cons]
theorem count_none (c:UInt8){s:Bs}(h:s.findIdx? (isC c)=none):s.count c=0:=by
 rw[List.count_eq_zero]
 intro hm
 have:=List.findIdx?_eq_none_iff.1 h c hm
 simp[isC]at this
theorem indexByte_eq (c:UInt8):∀s:Bs,Lib.indexByte s c=optI (s.findIdx? (isC c))
 | []=>rfl
 | x :: r => by
  unfold Lib.indexByte
  rw[idx_cons,indexByte_eq c r]
  by_cases e:x=c
  ·simp[e,optI]
  ·cases h:r.findIdx? (isC c) with
   | none=>simp[optI,e]
   | some j =>
    have h1:¬((j:Int)= -1):=by omega
    simp[optI,e,h1]
theorem cut_round {c:UInt8}{r s:Bs}{xs:List Bs}{i m:Nat}(h:xs.take i++cutAt c r=cutAt c s)(hm:r.findIdx? (isC c)=some m)(hi:i<xs.length){y:Bs}(hy:y=r.take m):(xs.set i y).take (i+1)++cutAt c (r.drop (m+1))=cutAt c s:=by
 subst hy
 rw[cutAt_some c hm]at h
 rw[←h,List.take_add_one]
 simp[List.take_set_of_le,hi]
theorem cut_last {c:UInt8}{r s:Bs}{xs:List Bs}{i:Nat}(h:xs.take i++cutAt c r=cutAt c s)(hn:r.count c=0)(hi:i<xs.length):(xs.set i r).take (i+1)=cutAt c s:=by
 have hr:cutAt c r=[r]:=by
  cases e:r.findIdx? (isC c) with
  | none=>exact cutAt_none c e
  | some m=>have:=count_some c e;omega
 rw[hr]at h
 rw[←h,List.take_add_one]
 simp[List.take_set_of_le,hi]
theorem cnt_le (c:UInt8)(s:Bs):s.count c≤s.length:=List.count_le_length
def parts (p:Bs):List Bs:=if PathValid p then cut p else[]
theorem cut_sum : ∀ s : Bs, ((cut s).map (fun w => w.length + 1)).sum = s.length + 1
 | []=>rfl
 | c :: r => by
  have ih:=cut_sum r
  have hne:=cut_ne r
  unfold cut
  by_cases e:c=47
  ·simp only[e,if_true,List.map_cons,List.sum_cons,ih,List.length_cons,List.length_nil];omega
  ·simp only[e,if_false]
   cases h:cut r with
   | nil=>exact absurd h hne
   | cons w ws =>
    rw[h]at ih
    simp only[List.map_cons,List.sum_cons,List.length_cons]at ih ⊢
    omega
theorem sum_le {l : List Bs} (h : l.all l1Word = true) : (l.map (fun w => w.length + 1)).sum ≤ 6 * l.length := by
 induction l with
 | nil=>simp
 | cons w r ih =>
  simp only[List.all_cons,Bool.and_eq_true]at h
  have h1:=ih h.2
  have h2:w.length≤5:=by
   have:=h.1
   simp[l1Word]at this
   omega
  simp only[List.map_cons,List.sum_cons,List.length_cons]
  omega
theorem path_len {p:Bs}(h:PathValid p=true):p.length≤23:=by
 simp only[PathValid,Bool.and_eq_true,decide_eq_true_eq]at h
 have h1:=cut_sum p
 have h2:=sum_le h.1
 omega
theorem parts_long {p:Bs}(h:23<p.length):parts p=[]:=by
 have:¬PathValid p=true:=fun hp=>by have:=path_len hp;omega
 simp[parts,this]
theorem parts_many {p:Bs}(h:4<(cut p).length):parts p=[]:=by
 have:¬PathValid p=true:=fun hp=>by simp[PathValid]at hp;omega
 simp[parts,this]
theorem parts_bad {p:Bs}{k:Nat}{w:Bs}(h:(cut p)[k]? = some w)(hw:l1Word w=false):parts p=[]:=by
 have : ¬ PathValid p = true := fun hp => by
  simp only[PathValid,Bool.and_eq_true]at hp
  rw[all_false h hw]at hp
  simp at hp
 simp[parts,this]
theorem parts_ok {p:Bs}(h:(cut p).all l1Word=true)(hl:(cut p).length≤4):parts p=cut p:=by
 have:PathValid p=true:=by simp[PathValid,h,hl]
 simp[parts,this]
theorem parts_pos (p:Bs):decide (0<(parts p).length)=PathValid p:=by
 unfold parts
 cases h:PathValid p with
 | true=>simp;exact List.length_pos_iff.2 (cut_ne p)
 | false=>simp
def lastId (l:List BHeld)(k:Nat):Int:=if k=0 then 0 else((l[k-1]?).map (·.id)).getD 0
theorem lastId_succ {l:List BHeld}{k:Nat}{z:BHeld}(h:l[k]? = some z):lastId l (k+1)=z.id:=by simp[lastId,h]
theorem okH_last {l:List BHeld}{k:Nat}{z:BHeld}(hz:l[k]? = some z)(h:z.id≤lastId l k):okH l k=false:=by
 rw[okH_at hz]
 by_cases hk:k=0
 ·have:¬1≤z.id:=by simp[lastId,hk]at h;omega
  simp[l6In,this]
 ·have hl:=(List.getElem?_eq_some_iff.1 hz).1
  have:prevId l k z=false:=by
   simp only[lastId,hk,if_false]at h
   have h2:k-1<l.length:=by omega
   simp[h2]at h
   simp[prevId,hk,h2]
   omega
  simp[this]
theorem okH_mk {l : List BHeld} {k : Nat} {z : BHeld} (hz : l[k]? = some z) (hall : ∀ j, j < k → okH l j = true) (h : lastId l k < z.id) (hid : z.id ≤ 99) (hb : BlockValid z.bytes = true) (hu : 1 ≤ z.uses ∧ z.uses ≤ 999) (hd : (l.take k).all (fun g => !l2Same g.bytes z.bytes) = true) : okH l k = true := by
 have hl:=(List.getElem?_eq_some_iff.1 hz).1
 have h1:1≤z.id∧prevId l k z=true:=by
  by_cases hk:k=0
  ·simp only[lastId,hk,if_true]at h
   exact⟨by omega,by simp[prevId,hk]⟩
  ·have h2:k-1<l.length:=by omega
   have h3:=hall (k-1) (by omega)
   rw[okH_at (h:=l[k-1]) (by simp[h2])]at h3
   simp only[Bool.and_eq_true,l6In,decide_eq_true_eq]at h3
   simp[lastId,hk,h2]at h
   refine⟨by omega,?_⟩
   simp[prevId,hk,h2]
   omega
 rw[okH_at hz,hb,h1.2,hd]
 simp[l6In,h1.1,hid,hu]
theorem okH_id {l:List BHeld}{k:Nat}{z:BHeld}(hz:l[k]? = some z)(h:99<z.id∨z.uses<1∨999<z.uses∨BlockValid z.bytes=false):okH l k=false:=by
 rw[okH_at hz]
 rcases h with h|h|h|h
 ·have:¬z.id≤99:=by omega
  simp[l6In,this]
 ·have:¬1≤z.uses:=by omega
  simp[l6In,this]
 ·have:¬z.uses≤999:=by omega
  simp[l6In,this]
 ·simp[h]
theorem okH_dup {l:List BHeld}{k j:Nat}{z y:BHeld}(hz:l[k]? = some z)(hj:j<k)(hy:l[j]? = some y)(h:l2Same y.bytes z.bytes=true):okH l k=false:=by
 rw[okH_at hz,all_false (l:=l.take k) (k:=j) (c:=y) (by rw[List.getElem?_take,if_pos hj];exact hy) (by simp[h])]
 simp
theorem sv_false {l:List BHeld}{k:Nat}(hk:k<l.length)(h:okH l k=false):StoreValid l=false:=by
 rw[StoreValid,not_all_range hk h];rfl
theorem sv_long {l:List BHeld}(h:16<l.length):StoreValid l=false:=by
 have:¬l.length≤16:=by omega
 simp[StoreValid,this]
theorem sv_true {l:List BHeld}(h:∀j,j<l.length→okH l j=true)(hl:l.length≤16):StoreValid l=true:=by
 rw[StoreValid,all_range h];simp[hl]
theorem get_some {L:List BHeld}{id:Int}(h:(Sp.atH L id).isSome=true):∃i,Sp.atH L id=some i∧L[i]? = some (getH L id)∧(getH L id).id=id:=by
 obtain⟨i,hi⟩:=Option.isSome_iff_exists.1 h
 obtain⟨y,hy,hid⟩:=Fw.atH_some hi
 rw[getH_some hi hy]
 exact⟨i,hi,hy,hid⟩
theorem get_id {L:List BHeld}{id:Int}(h:(Sp.atH L id).isSome=true):id=(getH L id).id:=let ⟨_,_,_,h⟩:=get_some h;h.symm
theorem get_ok {L:List BHeld}(hV:VH L){id:Int}(h:(Sp.atH L id).isSome=true):(1≤id∧id≤99)∧BlockValid (getH L id).bytes=true∧(1≤(getH L id).uses∧(getH L id).uses≤999):=by
 obtain⟨i,_,h2,h3⟩:=get_some h
 have:=hV.at h2
 rw[h3]at this
 exact this
theorem get_no {L:List BHeld}{id:Int}(h:(Sp.atH L id).isSome=false):getH L id=⟨0,[],0⟩:=getH_none (by simpa using h)
theorem keep_get {L:List BHeld}(hV:VH L){id:Int}(h:(Sp.atH L id).isSome=true)(hu:(getH L id).uses<999):StoreKeep L id=some (updH L ⟨(getH L id).id,(getH L id).bytes,(getH L id).uses+1⟩)∧VH (updH L ⟨(getH L id).id,(getH L id).bytes,(getH L id).uses+1⟩):=by
 obtain⟨i,h1,h2,_⟩:=get_some h
 exact keep_some hV h1 h2 hu
theorem keep_no {L:List BHeld}(hV:VH L){id:Int}(h:(Sp.atH L id).isSome=false∨999≤(getH L id).uses):StoreKeep L id=none:=by
 cases e:(Sp.atH L id).isSome with
 | false=>exact keep_none hV (by simpa using e)
 | true =>
  obtain⟨i,h1,h2,_⟩:=get_some e
  exact keep_full hV h1 h2 (by simpa [e] using h)
theorem drop_get1 {L:List BHeld}(hV:VH L){id:Int}(h:(Sp.atH L id).isSome=true)(hu:(getH L id).uses=1):StoreDrop L id=some (delH L id)∧VH (delH L id):=by
 obtain⟨i,h1,h2,_⟩:=get_some h
 exact drop_one hV h1 h2 hu
theorem drop_get2 {L:List BHeld}(hV:VH L){id:Int}(h:(Sp.atH L id).isSome=true)(hu:(getH L id).uses≠1):StoreDrop L id=some (updH L ⟨(getH L id).id,(getH L id).bytes,(getH L id).uses-1⟩)∧VH (updH L ⟨(getH L id).id,(getH L id).bytes,(getH L id).uses-1⟩):=by
 obtain⟨i,h1,h2,_⟩:=get_some h
 exact drop_more hV h1 h2 hu
theorem drop_no {L:List BHeld}{id:Int}(h:(Sp.atH L id).isSome=false):StoreDrop L id=none:=drop_none (by simpa using h)
def findId (L:List BHeld)(b:List Int):Int:=(((Sp.like L b).bind (fun i=>L[i]?)).map (·.id)).getD 0
theorem findId_some {L:List BHeld}(hV:VH L){y:BHeld}(hy:y ∈ L){b:List Int}(h:l2Same y.bytes b=true):findId L b=y.id:=by
 have e:y.bytes=b:=by simpa [l2Same] using h
 subst e
 obtain⟨i,h1,h2⟩:=hV.like hy
 simp[findId,h1,h2]
theorem like_none {L:List BHeld}{b:List Int}(h:∀y,y ∈ L→l2Same y.bytes b=false):Sp.like L b=none:=List.findIdx?_eq_none_iff.2 (fun y hy=>by simpa using h y hy)
theorem findId_none {L:List BHeld}{b:List Int}(h:∀y,y ∈ L→l2Same y.bytes b=false):findId L b=0:=by simp[findId,like_none h]
theorem findId_ne {L:List BHeld}(hV:VH L){b:List Int}(h:findId L b≠0):∃i x,Sp.like L b=some i∧L[i]? = some x∧findId L b=x.id:=by
 unfold findId at h ⊢
 cases e:Sp.like L b with
 | none=>simp[e]at h
 | some i =>
  simp only[e,Option.bind_some]at h ⊢
  cases e2:L[i]? with
  | none=>simp[e2]at h
  | some x=>exact⟨i,x,rfl,e2,rfl⟩
theorem findId_eq {L:List BHeld}(hV:VH L){b:List Int}(h:findId L b=0):Sp.like L b=none:=by
 cases e:Sp.like L b with
 | none=>rfl
 | some i =>
  have hl:=(List.findIdx?_eq_some_iff_getElem.1 e).1
  have:=hV.at (i:=i) (x:=L[i]) (by simp[hl])
  simp[findId,e,hl]at h
  omega
theorem findId_in {L:List BHeld}(hV:VH L)(b:List Int):0≤findId L b∧findId L b≤99:=by
 unfold findId
 cases e:(Sp.like L b).bind (fun i=>L[i]?) with
 | none=>simp
 | some x =>
  obtain⟨i,h1,h2⟩:=Option.bind_eq_some_iff.1 e
  have:=hV.at h2
  simp
  omega
theorem uses_some {L:List BHeld}{id:Int}(h:(getH L id).uses≠0):(Sp.atH L id).isSome=true:=by
 cases e:(Sp.atH L id).isSome with
 | true=>rfl
 | false=>rw[get_no e]at h;simp at h
theorem uses_none {L:List BHeld}(hV:VH L){id:Int}(h:(getH L id).uses=0):(Sp.atH L id).isSome=false:=by
 cases e:(Sp.atH L id).isSome with
 | false=>rfl
 | true=>have:=get_ok hV e;omega
theorem put_perm {L:List BHeld}(b:List Int){k:Nat}(hk:freeId L=k+1):(updH L ⟨(k:Int)+1,b,1⟩).Perm (l3With L b):=by
 have e:(freeId L:Int)=(k:Int)+1:=by omega
 have h1:updH L ⟨(k:Int)+1,b,1⟩=L++[⟨(k:Int)+1,b,1⟩]:=by
  simp only[updH]
  rw[←e,free_none]
 rw[h1,l3With_eq,←e]
 exact(insert_perm (idF L) _ L).symm
theorem idsOk_get {L:List BHeld}{ids:List Int}{k:Nat}{id:Int}(hz:ids[k]? = some id)(h:(Sp.atH L id).isSome=true):idsOk L ids k= !(decide (k+1<ids.length)&&decide ((getH L id).bytes.length<8)):=by
 obtain⟨i,h1,h2,_⟩:=get_some h
 simp[idsOk,hz,h1,h2]
theorem idsOk_no {L:List BHeld}{ids:List Int}{k:Nat}{id:Int}(hz:ids[k]? = some id)(h:(Sp.atH L id).isSome=false):idsOk L ids k=false:=by
 have:Sp.atH L id=none:=by simpa using h
 simp[idsOk,hz,this]
theorem ids_false {L:List BHeld}{ids:List Int}{k:Nat}(hk:k<ids.length)(h:idsOk L ids k=false):l4Ids L ids=false:=by rw[l4Ids,not_all_range hk h];rfl
theorem ids_long {L:List BHeld}{ids:List Int}(h:4<ids.length):l4Ids L ids=false:=by
 have:¬ids.length≤4:=by omega
 simp[l4Ids,this]
theorem ids_true {L:List BHeld}{ids:List Int}(h:∀j,j<ids.length→idsOk L ids j=true)(hl:ids.length≤4):l4Ids L ids=true:=by rw[l4Ids,all_range h];simp[hl]
theorem ids_le {L:List BHeld}{ids:List Int}(h:l4Ids L ids=true):ids.length≤4:=by simp[l4Ids]at h;omega
theorem bv_len {b:List Int}(h:BlockValid b=true):1≤b.length∧b.length≤8:=by
 simp only[BlockValid,Bool.and_eq_true,l6In,decide_eq_true_eq]at h
 omega
def load (L:List BHeld)(ids:List Int):List Int:=(ids.map (fun id=>(getH L id).bytes)).flatten
theorem load_succ {L:List BHeld}{ids:List Int}{k:Nat}{id:Int}(h:ids[k]? = some id):load L (ids.take (k+1))=load L (ids.take k)++(getH L id).bytes:=by
 simp[load,take_succ' h]
theorem get_len {L:List BHeld}(hV:VH L)(id:Int):(getH L id).bytes.length≤8:=by
 cases e:(Sp.atH L id).isSome with
 | true=>exact(bv_len (get_ok hV e).2.1).2
 | false=>rw[get_no e];simp
theorem load_len {L:List BHeld}(hV:VH L):∀ids:List Int,(load L ids).length≤8*ids.length
 | []=>by simp[load]
 | id :: r => by
  have ih:=load_len hV r
  have:(getH L id).bytes.length≤8:=by
   cases e:(Sp.atH L id).isSome with
   | true=>exact(bv_len (get_ok hV e).2.1).2
   | false=>rw[get_no e];simp
  simp only[load,List.map_cons,List.flatten_cons,List.length_append,List.length_cons]at ih ⊢
  omega
def nextC (b:List Int)(p:Nat):List Int:=(b.drop p).take (min (p+8) b.length-p)
theorem next_chunk (b:List Int)(k:Nat):nextC b (min (8*k+8) b.length)=chunk b (k+1):=by
 unfold nextC chunk
 by_cases h:8*k+8≤b.length
 ·rw[Nat.min_eq_left h,show 8*(k+1)=8*k+8 by omega]
 ·rw[show min (8*k+8) b.length=b.length by omega,List.drop_of_length_le (Nat.le_refl _),List.drop_of_length_le (by omega)]
  simp
theorem next_zero (b:List Int):nextC b 0=chunk b 0:=by simp[nextC,chunk]
theorem chunk_len (b:List Int)(k:Nat):(chunk b k).length=min (8*k+8) b.length-8*k:=by
 simp[chunk];omega
theorem chunk_valid {b:List Int}(h:FileValid b=true){k:Nat}(hk:0<(chunk b k).length):BlockValid (chunk b k)=true:=by
 have hl:=chunk_len b k
 simp only[FileValid,Bool.and_eq_true,List.all_eq_true]at h
 have h1:(chunk b k).all byteOk=true:=by
  rw[List.all_eq_true]
  intro x hx
  exact h.1 x (List.mem_of_mem_drop (List.mem_of_mem_take hx))
 simp only[BlockValid,h1,Bool.true_and,l6In]
 simp
 omega
theorem chunks_at {b:List Int}{k:Nat}(hk:0<(chunk b k).length):(l4Cut b)[k]? = some (chunk b k):=by
 have hl:=chunk_len b k
 have:k<(b.length+7) / 8:=by omega
 simp[l4Cut,this]
theorem chunks_end {b:List Int}{k:Nat}(hk:(chunk b k).length≤0):(l4Cut b).length≤k:=by
 have hl:=chunk_len b k
 simp[l4Cut]
 omega
theorem VH_nil:VH []:=⟨.nil,.nil,by simp,by simp⟩
theorem VH.take {L:List BHeld}(h:VH L)(k:Nat):VH (L.take k) :=
 ⟨h.asc.sublist (List.take_sublist k L),h.dist.sublist (List.take_sublist k L),fun x hx=>h.ok x (List.mem_of_mem_take hx),by have:=h.len;simp;omega⟩
theorem upd_take {L:List BHeld}(h:VH L){k:Nat}{z:BHeld}(hz:L[k]? = some z):updH (L.take k) z=L.take (k+1):=by
 have:Sp.atH (L.take k) z.id=none:=by
  cases e:Sp.atH (L.take k) z.id with
  | none=>rfl
  | some i =>
   obtain⟨y,hy,hid⟩:=Fw.atH_some e
   rw[List.getElem?_take]at hy
   split at hy
   ·rename_i hlt
    have h1:=List.getElem?_eq_some_iff.1 hy
    have h2:=List.getElem?_eq_some_iff.1 hz
    have:=List.pairwise_iff_getElem.1 h.asc i k h1.1 h2.1 hlt
    rw[h1.2,h2.2]at this
    omega
   ·cases hy
 simp only[updH,this]
 rw[take_succ' hz]
theorem get_at {L:List BHeld}(h:VH L){k:Nat}{z:Int}(hz:(L.map (·.id))[k]? = some z):L[k]? = some ⟨z,(getH L z).bytes,(getH L z).uses⟩:=by
 rw[List.getElem?_map]at hz
 cases e:L[k]? with
 | none=>simp[e]at hz
 | some y =>
  simp only[e,Option.map_some,Option.some.injEq]at hz
  subst hz
  rw[getH_some (h.atH e) e]
end Sp
namespace Fw
open Go
section ops
variable {P:Program} {n:Nat} {L:Slots} {ds:List Deferred} {w w0:World} {G:PH} {B:List Res}
variable {ty:TypeId} {ps:String} {af:Array Edge}
theorem v_slice {d:Nat}{t e:TypeId}{x y z:Operand}{a:Option Addr}{m c sz i j:Nat}{p q:Int}(hU:P.underlying t=some (.slice e))(hS:∀w,(Go.sizeOf e).run P w= .ok sz w)(hx:od L x=some (.slice a m c))
  (hy:od L y=some (.int .i64 p)) (hz:od L z=some (.int .i64 q)) (hp:p=i) (hq:q=j) (h1:i≤j) (h2:j≤c):VAL P n L ds w (⟨some d,.slice t x (some y) (some z) none,ty,ps,af,none⟩) (.slice (if c=i then a else a.map (·.add (i*sz))) (j-i) (c-i)) :=
 fun b hb => by
  subst hp hq
  simp[execOp,hb.eval hx,hb.eval hy,hb.eval hz,Instr.sliceAt,Instr.slice,run_underlying hU,Instr.sliceBounds,Instr.sliceBound,asIntOf,hS,h1,h2]
theorem v_nenil_ptr {d:Nat}{x y:Operand}{t u e:TypeId}{p:Option Addr}(hU:P.underlying t=some (.pointer e))(hx:od L x=some (.pointer p))(hy:od L y=some (.pointer none)):VAL P n L ds w (⟨some d,.binOp .neq t x y u,ty,ps,af,none⟩) (.bool (!p.isNone)) :=
 fun f ha => by
  have h1:(binOp .neq t (.pointer p) (.pointer none)).run P w= .ok (.bool (!p.isNone)) w:=run_neq_pointer_nil w t p (by simp[Program.pointee,hU])
  simp[execOp,ha.eval hx,ha.eval hy,guard_ptr,h1]
end ops
def ChkF {α:Type}(E:Fr→α→List Value→Prop)(sz:Nat)(cells:List Value)(xs:List α)(F:Fr):Prop :=
 ∃(css:List (List Value)) (Fs:List Fr),cells=css.flatten∧F=Fs.flatten∧css.length=xs.length∧Fs.length=xs.length∧∀(i:Nat) (x:α),xs[i]? = some x→∃cs Fi,css[i]? = some cs∧Fs[i]? = some Fi∧cs.length=sz∧E Fi x cs
theorem ChkF.nil {α:Type}{E:Fr→α→List Value→Prop}{sz:Nat}:ChkF E sz [] ([]:List α) []:=⟨[],[],rfl,rfl,rfl,rfl,by simp⟩
theorem ChkF.app {α:Type}{E:Fr→α→List Value→Prop}{sz:Nat}{c c':List Value}{xs ys:List α}{F F':Fr}(h:ChkF E sz c xs F)(k:ChkF E sz c' ys F'):ChkF E sz (c++c') (xs++ys) (F++F'):=by
 obtain⟨css,Fs,rfl,rfl,h3,h4,h5⟩:=h
 obtain⟨css',Fs',rfl,rfl,k3,k4,k5⟩:=k
 refine⟨css++css',Fs++Fs',by simp,by simp,by simp[h3,k3],by simp[h4,k4],fun i x hx=>?_⟩
 by_cases hi:i<xs.length
 ·rw[List.getElem?_append_left hi]at hx
  obtain⟨cs,Fi,e1,e2,e3⟩:=h5 i x hx
  exact⟨cs,Fi,by rw[List.getElem?_append_left (by omega)];exact e1,by rw[List.getElem?_append_left (by omega)];exact e2,e3⟩
 ·rw[List.getElem?_append_right (by omega)]at hx
  obtain⟨cs,Fi,e1,e2,e3⟩:=k5 _ x hx
  exact⟨cs,Fi,by rw[List.getElem?_append_right (by omega),h3];exact e1,by rw[List.getElem?_append_right (by omega),h4];exact e2,e3⟩
theorem ChkF.one {α : Type} {E : Fr → α → List Value → Prop} {sz : Nat} {cs : List Value} {x : α} {F : Fr} (h : E F x cs) (hl : cs.length = sz) : ChkF E sz cs [x] F := ⟨[cs], [F], by simp, by simp, rfl, rfl, by
 intro i y hy
 cases i with
 | zero=>simp at hy;subst hy;exact⟨cs,F,rfl,rfl,hl,h⟩
 | succ i=>simp at hy⟩
theorem ChkF.snoc {α:Type}{E:Fr→α→List Value→Prop}{sz:Nat}{c cs:List Value}{xs:List α}{x:α}{F F':Fr}(h:ChkF E sz c xs F)(hx:E F' x cs)(hl:cs.length=sz):ChkF E sz (c++cs) (xs++[x]) (F++F'):=h.app (ChkF.one hx hl)
theorem flen {α:Type}{sz:Nat}:∀(css:List (List α)),(∀c,c ∈ css→c.length=sz)→css.flatten.length=css.length*sz
 | [],_=>by simp
 | c :: r, h => by
  simp only[List.flatten_cons,List.length_append,h c (by simp),flen r (fun d hd=>h d (by simp[hd])),List.length_cons,Nat.add_mul,Nat.one_mul]
  omega
theorem ChkF.szs {α:Type}{E:Fr→α→List Value→Prop}{sz:Nat}{css:List (List Value)}{Fs:List Fr}{xs:List α}(h3:css.length=xs.length)(h5:∀(i:Nat) (x:α),xs[i]? = some x→∃cs Fi,css[i]? = some cs∧Fs[i]? = some Fi∧cs.length=sz∧E Fi x cs):∀c,c ∈ css→c.length=sz:=by
 intro c hc
 obtain⟨j,hj⟩:=List.getElem?_of_mem hc
 have hj':=(List.getElem?_eq_some_iff.1 hj).1
 obtain⟨cs',_,e1,_,e2,_⟩:=h5 j xs[j] (by simp)
 rw[hj]at e1
 simp at e1
 rw[e1];exact e2
theorem ChkF.length {α:Type}{E:Fr→α→List Value→Prop}{sz:Nat}{c:List Value}{xs:List α}{F:Fr}(h:ChkF E sz c xs F):c.length=xs.length*sz:=by
 obtain⟨css,Fs,rfl,rfl,h3,h4,h5⟩:=h
 rw[flen css (ChkF.szs h3 h5),h3]
theorem ChkF.imp {α:Type}{E E':Fr→α→List Value→Prop}{sz:Nat}{c:List Value}{xs:List α}{F:Fr}(h:ChkF E sz c xs F)(hE:∀F x cs,E F x cs→E' F x cs):ChkF E' sz c xs F:=by
 obtain⟨css,Fs,h1,h2,h3,h4,h5⟩:=h
 refine⟨css,Fs,h1,h2,h3,h4,fun i x hx=>?_⟩
 obtain⟨cs,Fi,e1,e2,e3,e4⟩:=h5 i x hx
 exact⟨cs,Fi,e1,e2,e3,hE _ _ _ e4⟩
def OwnS {α:Type}(E:Fr→α→List Value→Prop)(sz:Nat)(e:TypeId)(F:Fr)(v:Value)(xs:List α):Prop :=
 xs.length≤1099511627776∧((v= .slice none 0 0∧xs=[]∧F=[]) ∨
  ∃b cap C cells F',v= .slice (some ⟨b,0,none⟩) xs.length cap∧xs.length≤cap∧cap≤maxLen∧F=(b,.cells C e (0,0))::F'∧cap*sz≤C.size∧C.toList.take (xs.length*sz)=cells∧ChkF E sz cells xs F')
def intO:Fr→Int→List Value→Prop:=fun F x cs=>F=[]∧intE (fun _=>none) x cs
abbrev OI (F:Fr) (v:Value) (xs:List Int):Prop:=∃e,OwnS intO 1 e F v xs
def heldO:Fr→BHeld→List Value→Prop:=fun F x cs=>∃a m c,cs=[.int .i64 x.id,.slice a m c,.int .i64 x.uses]∧inI x.id∧OI F (.slice a m c) x.bytes∧inI x.uses
def itemO:Fr→BItem→List Value→Prop:=fun F x cs=>∃a m c,cs=[str x.path,.bool x.dir,.slice a m c]∧x.path.length≤16777216∧OI F (.slice a m c) x.ids
abbrev OHs (F:Fr) (v:Value) (xs:List BHeld):Prop:=∃e,OwnS heldO 3 e F v xs
abbrev OIs (F:Fr) (v:Value) (xs:List BItem):Prop:=∃e,OwnS itemO 3 e F v xs
def snapO:Fr→BSnap→List Value→Prop:=fun F x cs=>∃a m c,cs=[str x.name,.slice a m c]∧x.name.length≤16777216∧OIs F (.slice a m c) x.tree
abbrev OSn (F:Fr) (v:Value) (xs:List BSnap):Prop:=∃e,OwnS snapO 2 e F v xs
section
variable {w0 w w':World} {G0 G G':PH} {S:List Nat} {B Bs:List Res}
theorem dm_nodup (H:Hp w0 G0 S w G B){k:Nat}{F:Fr}(hk:nth B k=some (frag F)):(dm F).Nodup:=by
 obtain⟨B1,B2,h1,_,_⟩:=fps_split hk
 have:=H.nd
 rw[h1]at this
 simp only[fps,List.flatMap_append,List.flatMap_cons]at this
 exact(List.nodup_append.1 (List.nodup_append.1 this).2.1).1
theorem frag_append {F F':Fr}{h:Nat→Option Obj}(hn:(dm (F++F')).Nodup):(frag (F++F')).pred h↔(frag F).pred h∧(frag F').pred h:=by
 constructor
 ·intro hp
  refine⟨fun b o hb=>hp b o (fh_left F F' b o hb),fun b o hb=>hp b o (fh_right (fun c h1 h2=>?_) b o hb)⟩
  rw[dm_append]at hn
  exact(List.nodup_append.1 hn).2.2 c h1 c h2 rfl
 ·rintro⟨h1,h2⟩ b o hb
  rw[fh_append]at hb
  cases e:fh F b with
  | some o'=>rw[e]at hb;simp at hb;subst hb;exact h1 b o' e
  | none=>rw[e]at hb;simp at hb;exact h2 b o hb
theorem Hp.mergeF {F F':Fr}(H:Hp w0 G0 S w G (frag F::frag F'::B)):Hp w0 G0 S w G (frag (F++F')::B):=by
 have hn:=H.nd
 have e:fps (frag F::frag F'::B)=fps (frag (F++F')::B):=by
  show dm F++(dm F'++fps B)=dm (F++F')++fps B
  rw[dm_append,List.append_assoc]
 rw[e]at hn
 have hn2:(dm (F++F')).Nodup:=(List.nodup_append.1 hn).1
 refine⟨H.os,H.tape,H.output,H.size,H.ext,H.sub,H.le,H.old,?_,hn⟩
 intro r hr
 rcases List.mem_cons.1 hr with rfl|hr
 ·refine⟨(frag_append hn2).2 ⟨(H.own (frag F) (by simp)).1,(H.own (frag F') (by simp)).1⟩,fun b hb=>?_⟩
  have:b ∈ dm F++dm F':=by rw[←dm_append];exact hb
  rcases List.mem_append.1 this with h|h
  ·exact(H.own (frag F) (by simp)).2 b h
  ·exact(H.own (frag F') (by simp)).2 b h
 ·exact H.own r (by simp[hr])
theorem Hp.splitF {F F':Fr}(H:Hp w0 G0 S w G (frag (F++F')::B)):Hp w0 G0 S w G (frag F::frag F'::B):=by
 have hn:=H.nd
 have hn2:(dm (F++F')).Nodup:=(List.nodup_append.1 hn).1
 have e:fps (frag F::frag F'::B)=fps (frag (F++F')::B):=by
  show dm F++(dm F'++fps B)=dm (F++F')++fps B
  rw[dm_append,List.append_assoc]
 have h0:=H.own (frag (F++F')) (by simp)
 have hp:=(frag_append hn2).1 h0.1
 refine⟨H.os,H.tape,H.output,H.size,H.ext,H.sub,H.le,H.old,?_,by rw[e];exact hn⟩
 intro r hr
 rcases List.mem_cons.1 hr with rfl|hr
 ·exact⟨hp.1,fun b hb=>h0.2 b (by show b ∈ dm (F++F');rw[dm_append];exact List.mem_append.2 (.inl hb))⟩
 ·rcases List.mem_cons.1 hr with rfl|hr
  ·exact⟨hp.2,fun b hb=>h0.2 b (by show b ∈ dm (F++F');rw[dm_append];exact List.mem_append.2 (.inr hb))⟩
  ·exact H.own r (by simp[hr])
theorem Hp.addF (H:Hp w0 G0 S w G B):Hp w0 G0 S w G (frag []::B):=H.add (Ext.refl w) (frag []) (fun b o h=>by simp[fh]at h) (by simp[frag,dm]) (by simp[frag,dm])
theorem Hp.ownF {α:Type}{E:Fr→α→List Value→Prop}{e:TypeId}{sz:Nat}{v:Value}{n:Nat}{cells:List Value}{xs:List α}{F:Fr}(H:Hp w0 G0 S w G (acc e sz v n cells::frag F::B))(hc:ChkF E sz cells xs F)(hn:n=xs.length)(hl:xs.length≤1099511627776) :
  ∃F',Hp w0 G0 S w G (frag F'::B)∧OwnS E sz e F' v xs:=by
 subst hn
 have h0:=H.own (acc e sz v xs.length cells) (by simp)
 obtain⟨⟨h1,h2⟩,h3⟩:=h0
 rcases h2 with ⟨rfl,hx⟩|⟨b,cap,C,rfl,g1,g2,g3,g4,g5⟩
 ·have hx':xs=[]:=List.eq_nil_of_length_eq_zero hx
  subst hx'
  obtain⟨css,Fs,_,rfl,_,hFs,_⟩:=hc
  have:Fs=[]:=List.eq_nil_of_length_eq_zero (by simpa using hFs)
  subst this
  exact⟨[],H.del (k:=0) rfl,by simp,.inl ⟨rfl,rfl,rfl⟩⟩
 ·have e1:(acc e sz (.slice (some ⟨b,0,none⟩) xs.length cap) xs.length cells).fp=[b]:=rfl
  refine⟨(b,.cells C e (0,0))::F,?_,hl,.inr ⟨b,cap,C,cells,F,rfl,g2,g3,rfl,g4,g5,hc⟩⟩
  have H1 : Hp w0 G0 S w G (frag [(b, .cells C e (0, 0))] :: frag F :: B) := H.upd (k := 0) rfl rfl rfl rfl (Nat.le_refl _) (fun _ _ _ => rfl) (frag [(b, .cells C e (0, 0))]) (by
   intro c o hc
   simp only[fh]at hc
   split at hc
   ·next e'=>subst e';simp at hc;subst hc;exact g1
   ·cases hc) (fun c hc=>by
   left
   rw[e1]
   simpa [frag,dm] using hc) (by simp[frag,dm])
  exact H1.mergeF
theorem chkIF {G:PH}{c:List Value}{xs:List Int}(h:Chk intE 1 G c xs):ChkF intO 1 c xs []:=by
 obtain⟨css,h1,h2,h3⟩:=h
 refine⟨css,List.replicate xs.length [],h1,by simp,h2,by simp,fun i x hx=>?_⟩
 obtain⟨cs,e1,e2,e3⟩:=h3 i x hx
 have hi:=(List.getElem?_eq_some_iff.1 hx).1
 exact⟨cs,[],e1,by simp[hi],e2,rfl,e3⟩
theorem Hp.ownI (H:Hp w0 G0 S w G B){k:Nat}{e:TypeId}{v:Value}{n:Nat}{cells:List Value}{xs:List Int}(hk:nth B k=some (acc e 1 v n cells))(hc:Chk intE 1 G cells xs)(hn:n=xs.length)(hl:xs.length≤1099511627776) :
  ∃F,Hp w0 G0 S w G (frag F::delN B k)∧OI F v xs:=by
 have H1:=H.toFront hk
 have H2:Hp w0 G0 S w G (acc e 1 v n cells::frag []::delN B k):=(H1.addF).swap0
 obtain⟨F,H3,h⟩:=H2.ownF (chkIF hc) hn hl
 exact⟨F,H3,e,h⟩
theorem Hp.keepF (H:Hp w0 G0 S w G B){k:Nat}{F:Fr}(hk:nth B k=some (frag F))(hS:∀b,b ∈ dm F→b ∉ S):∃G',Hp w0 G0 S w G' (delN B k)∧PLe G G'∧PLe (fh F) G':=by
 obtain⟨H',hp⟩:=H.keep hk hS
 exact⟨_,H',PPlus.le _ _ _,fun b o hb=>hp b o hb⟩
end
theorem ChkF.rd {α:Type}{E:Fr→α→List Value→Prop}{E':PH→α→List Value→Prop}{sz:Nat}{c:List Value}{xs:List α}{F:Fr}{G:PH}(h:ChkF E sz c xs F)(hle:PLe (fh F) G)(hn:(dm F).Nodup)(hE:∀F' x cs,PLe (fh F') G→(dm F').Nodup→E F' x cs→E' G x cs):Chk E' sz G c xs:=by
 obtain⟨css,Fs,h1,rfl,h3,h4,h5⟩:=h
 refine⟨css,h1,h3,fun i x hx=>?_⟩
 obtain⟨cs,Fi,e1,e2,e3,e4⟩:=h5 i x hx
 have key:∀(Fs:List Fr) (i:Nat) (Fi:Fr),Fs[i]? = some Fi→(dm Fs.flatten).Nodup→PLe (fh Fi) (fh Fs.flatten)∧(dm Fi).Nodup:=by
  intro Fs
  induction Fs with
  | nil=>intro i Fi h;simp at h
  | cons F0 r ih =>
   intro i Fi h hn
   simp only[List.flatten_cons,dm_append]at hn ⊢
   obtain⟨n1,n2,n3⟩:=List.nodup_append.1 hn
   cases i with
   | zero=>simp only[List.getElem?_cons_zero,Option.some.injEq]at h;subst h;exact⟨fh_left _ _,n1⟩
   | succ i =>
    simp only[List.getElem?_cons_succ]at h
    obtain⟨i1,i2⟩:=ih i Fi h n2
    exact⟨i1.trans (fh_right (fun b h1 h2=>n3 b h1 b h2 rfl)),i2⟩
 obtain⟨k1,k2⟩:=key Fs i Fi e2 hn
 exact⟨cs,e1,e3,hE Fi x cs (k1.trans hle) k2 e4⟩
theorem OwnS.rd {α:Type}{E:Fr→α→List Value→Prop}{E':PH→α→List Value→Prop}{sz:Nat}{e:TypeId}{F:Fr}{v:Value}{xs:List α}{G:PH}(h:OwnS E sz e F v xs)(hle:PLe (fh F) G)(hn:(dm F).Nodup)(hE:∀F' x cs,PLe (fh F') G→(dm F').Nodup→E F' x cs→E' G x cs):RdS LIM E' sz G v xs:=by
 obtain⟨hl,h⟩:=h
 rcases h with ⟨rfl,rfl,rfl⟩|⟨b,cap,C,cells,F',rfl,g2,g3,rfl,g4,g5,hc⟩
 ·exact RdS.nil _ _ _
 ·have hn':b ∉ dm F'∧(dm F').Nodup:=by simpa [dm] using hn
  have hle' : PLe (fh F') G := fun c o hc => hle c o (by
   have:¬b=c:=fun e=>hn'.1 (by rw[e];exact fh_dm hc)
   simp[fh,this,hc])
  have hck:=hc.rd hle' hn'.2 hE
  refine⟨some ⟨b,0,none⟩,cap,rfl,g2,hl,.inr ⟨b,0,rfl,fun i x hx=>?_⟩⟩
  obtain⟨cs,c1,c2,c3⟩:=hck.get i x hx
  refine⟨cs,c1,c2,fun j u hu=>⟨C,e,(0,0),hle b _ (by simp[fh]),?_⟩⟩
  have h1:=c3 j u hu
  rw[←g5,List.getElem?_take]at h1
  split at h1
  ·rw[Nat.zero_add];simpa using h1
  ·cases h1
theorem OI.rd {F:Fr}{v:Value}{xs:List Int}{G:PH}(h:OI F v xs)(hle:PLe (fh F) G)(hn:(dm F).Nodup):RdI G v xs:=let ⟨_,h⟩:=h;h.rd hle hn (fun _ _ _ _ _ h=>h.2)
theorem heldO.rd {F:Fr}{x:BHeld}{cs:List Value}{G:PH}(h:heldO F x cs)(hle:PLe (fh F) G)(hn:(dm F).Nodup):heldE G x cs:=by
 obtain⟨a,m,c,rfl,h1,h2,h3⟩:=h
 exact⟨a,m,c,rfl,h1,h2.rd hle hn,h3⟩
theorem itemO.rd {F:Fr}{x:BItem}{cs:List Value}{G:PH}(h:itemO F x cs)(hle:PLe (fh F) G)(hn:(dm F).Nodup):itemE G x cs:=by
 obtain⟨a,m,c,rfl,h1,h2⟩:=h
 exact⟨a,m,c,rfl,h1,h2.rd hle hn⟩
theorem OHs.rd {F:Fr}{v:Value}{xs:List BHeld}{G:PH}(h:OHs F v xs)(hle:PLe (fh F) G)(hn:(dm F).Nodup):RdH G v xs:=let ⟨_,h⟩:=h;h.rd hle hn (fun _ _ _ h1 h2 h=>heldO.rd h h1 h2)
theorem OIs.rd {F:Fr}{v:Value}{xs:List BItem}{G:PH}(h:OIs F v xs)(hle:PLe (fh F) G)(hn:(dm F).Nodup):RdItems G v xs:=let ⟨_,h⟩:=h;h.rd hle hn (fun _ _ _ h1 h2 h=>itemO.rd h h1 h2)
theorem snapO.rd {F:Fr}{x:BSnap}{cs:List Value}{G:PH}(h:snapO F x cs)(hle:PLe (fh F) G)(hn:(dm F).Nodup):snapE G x cs:=by
 obtain⟨a,m,c,rfl,h1,h2⟩:=h
 exact⟨a,m,c,rfl,h1,h2.rd hle hn⟩
theorem OSn.rd {F:Fr}{v:Value}{xs:List BSnap}{G:PH}(h:OSn F v xs)(hle:PLe (fh F) G)(hn:(dm F).Nodup):RdSn G v xs:=let ⟨_,h⟩:=h;h.rd hle hn (fun _ _ _ h1 h2 h=>snapO.rd h h1 h2)
theorem OwnS.shape {α:Type}{E:Fr→α→List Value→Prop}{sz:Nat}{e:TypeId}{F:Fr}{v:Value}{xs:List α}(h:OwnS E sz e F v xs):∃a c,v= .slice a xs.length c:=by
 obtain⟨_,⟨rfl,rfl,_⟩|⟨b,cap,_,_,_,rfl,_⟩⟩:=h
 ·exact⟨none,0,rfl⟩
 ·exact⟨_,cap,rfl⟩
end Fw
namespace Fw
inductive Nd where
 | mk (b:Nat) (name:Bs) (dir:Bool) (ids:List Int) (kids:List Nd)
namespace Nd
def b:Nd→Nat| .mk b _ _ _ _=>b
def name:Nd→Bs| .mk _ n _ _ _=>n
def dir:Nd→Bool| .mk _ _ d _ _=>d
def ids:Nd→List Int| .mk _ _ _ i _=>i
def kids:Nd→List Nd| .mk _ _ _ _ k=>k
theorem eta:∀t:Nd,t= .mk t.b t.name t.dir t.ids t.kids| .mk _ _ _ _ _=>rfl
mutual
def size:Nd→Nat| .mk _ _ _ _ ks=>sizes ks+1
def sizes:List Nd→Nat|[]=>0|k::r=>size k+sizes r
end
mutual
def cnt:Nd→Nat| .mk _ _ _ _ ks=>cnts ks
def cnts:List Nd→Nat|[]=>0|k::r=>cnt k+1+cnts r
end
mutual
def flat (s:Bs):Nd→List BItem| .mk _ _ _ _ ks=>flats s ks
def flats (s:Bs):List Nd→List BItem|[]=>[]|k::r=>⟨s++k.name,k.dir,k.ids⟩::(flat (s++k.name++[47]) k++flats s r)
end
def kid (t:Nd)(n:Bs):Option Nd:=t.kids.find? (fun k=>decide (k.name=n))
def at_:Nd→List Bs→Option Nd
 | t,[]=>some t
 | t, n :: r => match t.kid n with
  | some k=>at_ k r
  | none=>none
mutual
def wf:Nd→Prop| .mk _ _ _ _ ks=>ks.Pairwise (fun a b=>Sp.lt a.name b.name=true)∧wfs ks
def wfs:List Nd→Prop|[]=>True|k::r=>(Sp.l1Word k.name=true∧wf k)∧wfs r
end
theorem wf_iff (t : Nd) : t.wf ↔ t.kids.Pairwise (fun a b => Sp.lt a.name b.name = true) ∧ ∀ k, k ∈ t.kids → Sp.l1Word k.name = true ∧ k.wf := by
 obtain⟨_,_,_,_,ks⟩:=t
 simp only[wf,kids]
 have:∀l:List Nd,wfs l↔∀k,k ∈ l→Sp.l1Word k.name=true∧k.wf:=by
  intro l
  induction l with
  | nil=>simp[wfs]
  | cons a r ih=>simp only[wfs,ih,List.mem_cons,forall_eq_or_imp]
 rw[this]
theorem size_kid {t k:Nd}(h:k ∈ t.kids):k.size<t.size:=by
 obtain⟨_,_,_,_,ks⟩:=t
 simp only[kids]at h
 simp only[size]
 have:∀l:List Nd,k ∈ l→k.size≤sizes l:=by
  intro l
  induction l with
  | nil=>simp
  | cons a r ih =>
   intro h
   simp only[sizes]
   rcases List.mem_cons.1 h with rfl|h
   ·omega
   ·have:=ih h;omega
 have:=this ks h
 omega
theorem size_pos (t:Nd):0<t.size:=by obtain⟨_,_,_,_,ks⟩:=t;simp only[size];omega
theorem cnt_eq (t:Nd):t.cnt=cnts t.kids:=by obtain⟨_,_,_,_,ks⟩:=t;rfl
theorem flat_eq (s:Bs)(t:Nd):t.flat s=flats s t.kids:=by obtain⟨_,_,_,_,ks⟩:=t;rfl
theorem cnts_app:∀a b:List Nd,cnts (a++b)=cnts a+cnts b
 | [],b=>by simp[cnts]
 | x::r,b=>by simp only[List.cons_append,cnts,cnts_app r b];omega
theorem flats_app (s:Bs):∀a b:List Nd,flats s (a++b)=flats s a++flats s b
 | [],b=>by simp[flats]
 | x::r,b=>by simp only[List.cons_append,flats,flats_app s r b,List.append_assoc]
mutual
theorem flat_len (s:Bs):∀t:Nd,(t.flat s).length=t.cnt
 | .mk _ _ _ _ ks=>by simp only[flat,cnt];exact flats_len s ks
theorem flats_len (s:Bs):∀l:List Nd,(flats s l).length=cnts l
 | []=>rfl
 | k :: r => by
  simp only[flats,cnts,List.length_cons,List.length_append,flat_len (s++k.name++[47]) k,flats_len s r]
  omega
end
end Nd
end Fw
namespace Sp
open Fw Go
theorem lt_cons (a b:UInt8)(x y:Bs):lt (a::x) (b::y)=(decide (a<b)||(decide (a=b)&&lt x y)):=by
 simp only[lt,Op.bytesLess]
 congr 1
theorem lt_irrefl:∀a:Bs,lt a a=false
 | []=>rfl
 | x::r=>by rw[lt_cons,lt_irrefl r];simp
theorem lt_trans:∀{a b c:Bs},lt a b=true→lt b c=true→lt a c=true
 | _,_,[],_,h=>by simp[lt,Op.bytesLess]at h
 | [],_,_::_,_,_=>rfl
 | x::a,[],_::_,h,_=>by simp[lt,Op.bytesLess]at h
 | x :: a, y :: b, z :: c, h, k => by
  rw[lt_cons]at h k ⊢
  simp only[Bool.or_eq_true,decide_eq_true_eq,Bool.and_eq_true]at h k ⊢
  rcases h with h|⟨rfl,h⟩
  ·rcases k with k|⟨rfl,k⟩
   ·exact .inl (UInt8.lt_trans h k)
   ·exact .inl h
  ·rcases k with k|⟨rfl,k⟩
   ·exact .inl k
   ·exact .inr ⟨rfl,lt_trans h k⟩
theorem lt_total:∀a b:Bs,lt a b=true∨a=b∨lt b a=true
 | [],[]=> .inr (.inl rfl)
 | [],_::_=> .inl rfl
 | _::_,[]=> .inr (.inr rfl)
 | x :: a, y :: b => by
  rw[lt_cons,lt_cons]
  simp only[Bool.or_eq_true,decide_eq_true_eq,Bool.and_eq_true,List.cons.injEq]
  rcases Nat.lt_trichotomy x.toNat y.toNat with h|h|h
  ·exact .inl (.inl (UInt8.lt_iff_toNat_lt.2 h))
  ·have e:x=y:=UInt8.toNat_inj.1 h
   rcases lt_total a b with g|g|g
   ·exact .inl (.inr ⟨e,g⟩)
   ·exact .inr (.inl ⟨e,g⟩)
   ·exact .inr (.inr (.inr ⟨e.symm,g⟩))
  ·exact .inr (.inr (.inl (UInt8.lt_iff_toNat_lt.2 h)))
theorem lt_ne {a b:Bs}(h:lt a b=true):a≠b:=fun e=>by rw[e,lt_irrefl]at h;cases h
theorem lt_asymm {a b:Bs}(h:lt a b=true):lt b a=false:=by
 cases e:lt b a with
 | false=>rfl
 | true=>have:=lt_trans h e;rw[lt_irrefl]at this;cases this
theorem lt_pre:∀p a b:Bs,lt (p++a) (p++b)=lt a b
 | [],_,_=>rfl
 | x::p,a,b=>by rw[List.cons_append,List.cons_append,lt_cons,lt_pre p a b];simp
theorem lt_ext {p s:Bs}(h:s≠[]):lt p (p++s)=true:=by
 have:=lt_pre p [] s
 rw[List.append_nil]at this
 rw[this]
 cases s with
 | nil=>exact absurd rfl h
 | cons x r=>rfl
def tail47 (u:Bs):Prop:=u=[]∨∃v,u=47::v
theorem lt_names:∀{n1 n2:Bs},n2.all low=true→lt n1 n2=true→∀{s1 s2:Bs},tail47 s1→lt (n1++s1) (n2++s2)=true
 | _,[],_,h,_,_,_=>by simp[lt,Op.bytesLess]at h
 | [], c :: r, hl, _, s1, s2, hs => by
  rcases hs with rfl|⟨v,rfl⟩
  ·rfl
  ·simp only[List.nil_append,List.cons_append,lt_cons]
   have:(47:UInt8)<c:=by
    simp only[List.all_cons,Bool.and_eq_true,low,decide_eq_true_eq]at hl
    rw[UInt8.lt_iff_toNat_lt]
    have:(47:UInt8).toNat=47:=rfl
    omega
   simp[this]
 | a :: n1, c :: n2, hl, h, s1, s2, hs => by
  rw[lt_cons]at h
  simp only[List.cons_append,lt_cons]
  simp only[Bool.or_eq_true,decide_eq_true_eq,Bool.and_eq_true]at h ⊢
  rcases h with h|⟨rfl,h⟩
  ·exact .inl h
  ·simp only[List.all_cons,Bool.and_eq_true]at hl
   exact .inr ⟨rfl,lt_names hl.2 h hs⟩
theorem word_low {n:Bs}(h:l1Word n=true):n.all low=true:=by simp only[l1Word,Bool.and_eq_true]at h;exact h.1.1
theorem word_ne {n:Bs}(h:l1Word n=true):n≠[]:=by rintro rfl;simp[l1Word]at h
theorem low_no47 {n : Bs} (h : n.all low = true) : (47 : UInt8) ∉ n := fun hm => by
 have:=List.all_eq_true.1 h 47 hm
 simp[low]at this
def join:List Bs→Bs
 | []=>[]
 | [n]=>n
 | n::r=>n++47::join r
theorem join_cons (n:Bs){r:List Bs}(h:r≠[]):join (n::r)=n++47::join r:=by
 cases r with
 | nil=>exact absurd rfl h
 | cons m q=>rfl
theorem cut_noslash:∀{n:Bs},(47:UInt8) ∉ n→cut n=[n]
 | [],_=>rfl
 | x :: r, h => by
  simp only[List.mem_cons,not_or]at h
  have e:¬x=47:=fun e=>h.1 e.symm
  simp only[cut,e,if_false,cut_noslash h.2]
theorem cut_sl:∀{n:Bs} (s:Bs),(47:UInt8) ∉ n→cut (n++47::s)=n::cut s
 | [],s,_=>by simp[cut]
 | x :: r, s, h => by
  simp only[List.mem_cons,not_or]at h
  have e:¬x=47:=fun e=>h.1 e.symm
  simp only[List.cons_append,cut,e,if_false,cut_sl s h.2]
theorem cut_join:∀{ns:List Bs},ns≠[]→(∀n,n ∈ ns→(47:UInt8) ∉ n)→cut (join ns)=ns
 | [],h,_=>absurd rfl h
 | [n],_,h=>cut_noslash (h n (by simp))
 | n :: m :: r, _, h => by
  rw[join_cons n (by simp),cut_sl _ (h n (by simp)),cut_join (ns:=m::r) (by simp) (fun k hk=>h k (by simp[hk]))]
theorem join_cut:∀s:Bs,join (cut s)=s
 | []=>rfl
 | c :: r => by
  have ih:=join_cut r
  have hne:=cut_ne r
  unfold cut
  by_cases e:c=47
  ·simp only[e,if_true]
   rw[join_cons _ hne,ih]
   rfl
  ·simp only[e,if_false]
   cases h:cut r with
   | nil=>exact absurd h hne
   | cons w ws =>
    rw[h]at ih
    cases ws with
    | nil=>simp only[join]at ih ⊢;rw[ih]
    | cons v vs=>rw[join_cons _ (by simp)]at ih ⊢;rw[←ih];rfl
theorem cut_inj {p q:Bs}(h:cut p=cut q):p=q:=by rw[←join_cut p,←join_cut q,h]
theorem cut_no47:∀(s n:Bs),n ∈ cut s→(47:UInt8) ∉ n
 | [],n,h=>by simp[cut]at h;subst h;simp
 | c :: r, n, h => by
  have ih:=cut_no47 r
  unfold cut at h
  by_cases e:c=47
  ·simp only[e,if_true,List.mem_cons]at h
   rcases h with rfl|h
   ·simp
   ·exact ih n h
  ·simp only[e,if_false]at h
   cases hc:cut r with
   | nil=>exact absurd hc (cut_ne r)
   | cons w ws =>
    rw[hc]at h ih
    simp only[List.mem_cons]at h
    rcases h with rfl|h
    ·simp only[List.mem_cons,not_or]
     exact⟨fun g=>e g.symm,ih w (by simp)⟩
    ·exact ih n (by simp[h])
end Sp
namespace Fw.Nd
open Sp
def ltp (x y:BItem):Prop:=lt x.path y.path=true
theorem low_of {k:Nd}(h:l1Word k.name=true):k.name.all low=true:=word_low h
theorem flats_paths {s:Bs}:∀{l:List Nd} {x:BItem},x ∈ flats s l→∃k,k ∈ l∧∃u,x.path=s++(k.name++u)∧tail47 u
 | [],x,h=>by simp[flats]at h
 | k :: r, x, h => by
  simp only[flats,List.mem_cons,List.mem_append]at h
  rcases h with rfl|h|h
  ·exact⟨k,by simp,[],by simp,.inl rfl⟩
  ·rw[flat_eq]at h
   obtain⟨k',_,u,e,_⟩:=flats_paths (s:=s++k.name++[47]) (l:=k.kids) h
   exact⟨k,by simp,47::(k'.name++u),by rw[e];simp,.inr ⟨_,rfl⟩⟩
  ·obtain⟨k',h1,u,h2⟩:=flats_paths h
   exact⟨k',by simp[h1],u,h2⟩
  termination_by l=>sizes l
  decreasing_by
 ·simp only[sizes]
  obtain⟨_,_,_,_,ks⟩:=k
  simp only[kids,size]
  omega
 ·simp only[sizes]
  have:=size_pos k
  omega
theorem flats_sorted : ∀ (s : Bs) (l : List Nd), l.Pairwise (fun a b => lt a.name b.name = true) → (∀ k, k ∈ l → l1Word k.name = true ∧ k.wf) → (flats s l).Pairwise ltp
 | s,[],_,_=>by simp[flats]
 | s, k :: r, hp, hw => by
  rw[List.pairwise_cons]at hp
  have hk:=hw k (by simp)
  have hkw:=(wf_iff k).1 hk.2
  have h1:(k.flat (s++k.name++[47])).Pairwise ltp:=by
   rw[flat_eq]
   exact flats_sorted _ k.kids hkw.1 hkw.2
  have h2:=flats_sorted s r hp.2 (fun q hq=>hw q (by simp[hq]))
  simp only[flats]
  rw[List.pairwise_cons,List.pairwise_append]
  refine⟨?_,h1,h2,?_⟩
  ·intro y hy
   rcases List.mem_append.1 hy with hy|hy
   ·rw[flat_eq]at hy
    obtain⟨k',_,u,e,_⟩:=flats_paths hy
    show lt (s++k.name) y.path=true
    rw[e,List.append_assoc]
    exact lt_ext (by simp)
   ·obtain⟨k',hk',u,e,hu⟩:=flats_paths hy
    show lt (s++k.name) y.path=true
    rw[e,lt_pre]
    have:=lt_names (low_of (hw k' (by simp[hk'])).1) (hp.1 k' hk') (s1:=[]) (s2:=u) (.inl rfl)
    simpa using this
  ·intro x hx y hy
   rw[flat_eq]at hx
   obtain⟨k1,_,u1,e1,_⟩:=flats_paths hx
   obtain⟨k2,hk2,u2,e2,_⟩:=flats_paths hy
   show lt x.path y.path=true
   rw[e1,e2,List.append_assoc,List.append_assoc,lt_pre]
   exact lt_names (low_of (hw k2 (by simp[hk2])).1) (hp.1 k2 hk2) (.inr ⟨_,rfl⟩)
  termination_by _ l=>sizes l
  decreasing_by
 ·simp only[sizes]
  obtain⟨_,_,_,_,ks⟩:=k
  simp only[kids,size]
  omega
 ·simp only[sizes]
  have:=size_pos k
  omega
theorem flat_sorted {t:Nd}(h:t.wf)(s:Bs):(t.flat s).Pairwise ltp:=by
 rw[flat_eq]
 exact flats_sorted s t.kids ((wf_iff t).1 h).1 ((wf_iff t).1 h).2
theorem kid_some {t k:Nd}{n:Bs}(h:t.kid n=some k):k ∈ t.kids∧k.name=n:=⟨List.mem_of_find?_eq_some h,by have:=List.find?_some h;simpa using this⟩
theorem find_uniq : ∀ {l : List Nd}, l.Pairwise (fun a b => lt a.name b.name = true) → ∀ {k : Nd}, k ∈ l → l.find? (fun q => decide (q.name = k.name)) = some k
 | [],_,k,h=>by simp at h
 | x :: r, hp, k, h => by
  rw[List.pairwise_cons]at hp
  rw[List.find?_cons]
  rcases List.mem_cons.1 h with rfl|h
  ·simp
  ·have:¬x.name=k.name:=lt_ne (hp.1 k h)
   simp only[this,decide_false]
   exact find_uniq hp.2 h
theorem kid_of {t k:Nd}(h:t.wf)(hk:k ∈ t.kids):t.kid k.name=some k:=find_uniq ((wf_iff t).1 h).1 hk
theorem mem_flats {s:Bs}{t:Nd}(h:t.wf)(x:BItem):x ∈ flats s t.kids↔∃ns k,ns≠[]∧t.at_ ns=some k∧x=⟨s++join ns,k.dir,k.ids⟩:=by
 constructor
 ·intro hx
  have key:∀l:List Nd,x ∈ flats s l→∃k,k ∈ l∧(x=⟨s++k.name,k.dir,k.ids⟩∨x ∈ flats (s++k.name++[47]) k.kids):=by
   intro l
   induction l with
   | nil=>simp[flats]
   | cons k r ih =>
    intro h
    simp only[flats,List.mem_cons,List.mem_append,flat_eq]at h
    rcases h with h|h|h
    ·exact⟨k,by simp,.inl h⟩
    ·exact⟨k,by simp,.inr h⟩
    ·obtain⟨k',h1,h2⟩:=ih h;exact⟨k',by simp[h1],h2⟩
  obtain⟨k,hk,hx⟩:=key _ hx
  have hkid:=kid_of h hk
  rcases hx with rfl|hx
  ·exact⟨[k.name],k,by simp,by simp[at_,hkid],by simp[join]⟩
  ·have hlt:=size_kid hk
   obtain⟨ns,k',hne,hat,rfl⟩:=(mem_flats (((wf_iff t).1 h).2 k hk).2 x).1 hx
   exact⟨k.name::ns,k',by simp,by simp[at_,hkid,hat],by rw[join_cons _ hne];simp⟩
 ·rintro⟨ns,k,hne,hat,rfl⟩
  cases ns with
  | nil=>exact absurd rfl hne
  | cons n r =>
   simp only[at_]at hat
   cases hkid:t.kid n with
   | none=>simp[hkid]at hat
   | some q =>
    simp only[hkid]at hat
    obtain⟨hq,rfl⟩:=kid_some hkid
    have hlt:=size_kid hq
    have key:∀l:List Nd,q ∈ l→⟨s++join (q.name::r),k.dir,k.ids⟩ ∈ flats s l:=by
     intro l
     induction l with
     | nil=>simp
     | cons a r' ih =>
      intro h'
      simp only[flats,List.mem_cons,List.mem_append,flat_eq]
      rcases List.mem_cons.1 h' with rfl|h'
      ·cases r with
       | nil =>
        simp only[at_,Option.some.injEq]at hat
        subst hat
        exact .inl rfl
       | cons m r2 =>
        refine .inr (.inl ?_)
        refine(mem_flats (((wf_iff t).1 h).2 q hq).2 _).2 ⟨m::r2,k,by simp,hat,?_⟩
        rw[join_cons _ (by simp)];simp
      ·exact .inr (.inr (ih h'))
    exact key _ hq
  termination_by t.size
theorem at_words {t:Nd}(h:t.wf):∀{ns:List Bs} {k:Nd},t.at_ ns=some k→k.wf∧∀n,n ∈ ns→l1Word n=true:=by
 intro ns
 induction ns generalizing t with
 | nil=>intro k hk;simp only[at_,Option.some.injEq]at hk;subst hk;exact⟨h,by simp⟩
 | cons n r ih =>
  intro k hk
  simp only[at_]at hk
  cases hkid:t.kid n with
  | none=>simp[hkid]at hk
  | some q =>
   simp only[hkid]at hk
   obtain⟨hq,rfl⟩:=kid_some hkid
   have hqw:=((wf_iff t).1 h).2 q hq
   obtain⟨i1,i2⟩:=ih hqw.2 hk
   refine⟨i1,fun m hm=>?_⟩
   rcases List.mem_cons.1 hm with rfl|hm
   ·exact hqw.1
   ·exact i2 m hm
theorem mem_flat {t:Nd}(h:t.wf)(x:BItem):x ∈ t.flat []↔∃k,t.at_ (cut x.path)=some k∧x.dir=k.dir∧x.ids=k.ids:=by
 rw[flat_eq,mem_flats h]
 constructor
 ·rintro⟨ns,k,hne,hat,rfl⟩
  refine⟨k,?_,rfl,rfl⟩
  simp only[List.nil_append]
  rw[cut_join hne (fun n hn=>low_no47 (word_low ((at_words h hat).2 n hn)))]
  exact hat
 ·rintro⟨k,hat,h1,h2⟩
  refine⟨cut x.path,k,cut_ne _,hat,?_⟩
  rw[List.nil_append,join_cut,←h1,←h2]
def updK (n:Bs)(f:Nd→Nd):List Nd→List Nd
 | []=>[]
 | k::r=>if k.name=n then f k::r else k::updK n f r
def upd (t:Nd):List Bs→(Nd→Nd)→Nd
 | [],f=>f t
 | n::r,f=> .mk t.b t.name t.dir t.ids (updK n (fun k=>upd k r f) t.kids)
def att (t:Nd)(ns:List Bs):Option (Bool×List Int):=(t.at_ ns).map (fun k=>(k.dir,k.ids))
theorem find_updK {n m : Bs} {f : Nd → Nd} (hf : ∀ k, k.name = n → (f k).name = n) : ∀ l : List Nd, (updK n f l).find? (fun k => decide (k.name = m)) = if m = n then (l.find? (fun k => decide (k.name = n))).map f else l.find? (fun k => decide (k.name = m))
 | []=>by simp[updK]
 | k :: r => by
  unfold updK
  by_cases e:k.name=n
  ·simp only[e,if_true,List.find?_cons,hf k e]
   by_cases e2:m=n
   ·simp[e2]
   ·have:¬n=m:=fun h=>e2 h.symm
    simp[e2,this]
  ·simp only[e,if_false,List.find?_cons,find_updK hf r,decide_false]
   by_cases e2:m=n
   ·subst e2;simp[e]
   ·simp only[e2,if_false]
theorem upd_name (t:Nd)(f:Nd→Nd)(hf:∀k,(f k).name=k.name):∀ns,(t.upd ns f).name=t.name
 | []=>hf t
 | _::_=>rfl
theorem upd_dir (t:Nd)(f:Nd→Nd)(hf:∀k,(f k).dir=k.dir):∀ns,(t.upd ns f).dir=t.dir
 | []=>hf t
 | _::_=>rfl
theorem att_upd {f : Nd → Nd} (hn : ∀ k, (f k).name = k.name) (hd : ∀ k, (f k).dir = k.dir) : ∀ (ns : List Bs) (t d : Nd), t.at_ ns = some d → ∀ ms, (t.upd ns f).att ms = if ns <+: ms then (f d).att (ms.drop ns.length) else t.att ms
 | [], t, d, h, ms => by
  simp only[at_,Option.some.injEq]at h
  subst h
  simp[upd]
 | n :: r, t, d, h, ms => by
  simp only[at_]at h
  cases hkid:t.kid n with
  | none=>simp[hkid]at h
  | some q =>
   simp only[hkid]at h
   obtain⟨hq,rfl⟩:=kid_some hkid
   cases ms with
   | nil=>simp[upd,att,at_,dir,ids]
   | cons m ms =>
    have ih:=att_upd hn hd r q d h ms
    have hfk:∀k:Nd,k.name=q.name→(k.upd r f).name=q.name:=fun k hk=>by rw[upd_name k f hn];exact hk
    have hf:=find_updK (m:=m) hfk t.kids
    have e0:(t.upd (q.name::r) f).kid m=if m=q.name then(t.kid q.name).map (fun k=>k.upd r f) else t.kid m:=hf
    have e1 : (t.upd (q.name :: r) f).at_ (m :: ms) = match (if m = q.name then (t.kid q.name).map (fun k => k.upd r f) else t.kid m) with
      | some k=>k.at_ ms
      | none=>none:=by rw[←e0];rfl
    unfold att at ih ⊢
    rw[e1]
    by_cases e:m=q.name
    ·subst e
     simp only[if_true,hkid,Option.map_some]
     rw[ih]
     simp only[List.cons_prefix_cons,true_and,List.length_cons,List.drop_succ_cons,at_,hkid]
    ·have:¬(q.name::r) <+: (m::ms):=fun hp=>e (List.cons_prefix_cons.1 hp).1.symm
     simp only[e,this,if_false,at_]<;>rfl
def place (t:Nd)(n:Bs):Nat:=(t.kids.takeWhile (fun k=>lt k.name n)).length
def withKids (t:Nd)(ks:List Nd):Nd:= .mk t.b t.name t.dir t.ids ks
def insK (k:Nd)(t:Nd):Nd:=t.withKids (t.kids.take (t.place k.name)++k::t.kids.drop (t.place k.name))
def delK (n:Bs)(t:Nd):Nd:=t.withKids (t.kids.take (t.place n)++t.kids.drop (t.place n+1))
def setIds (is:List Int)(t:Nd):Nd:= .mk t.b t.name t.dir is t.kids
@[simp] theorem wk_kids (t:Nd) (ks):(t.withKids ks).kids=ks:=rfl
theorem take_tw {α:Type}(p:α→Bool):∀l:List α,l.take (l.takeWhile p).length=l.takeWhile p∧l.drop (l.takeWhile p).length=l.dropWhile p
 | []=>by simp
 | x :: r => by
  have ih:=take_tw p r
  rw[List.takeWhile_cons,List.dropWhile_cons]
  split
  ·simp[ih.1,ih.2]
  ·simp
theorem tw_lt {l:List Nd}{n:Bs}:∀k,k ∈ l.takeWhile (fun k=>lt k.name n)→lt k.name n=true:=fun k h=>(takeWhile_all h).1
theorem dw_ge : ∀ {l : List Nd} {n : Bs}, l.Pairwise (fun a b => lt a.name b.name = true) → ∀ k, k ∈ l.dropWhile (fun k => lt k.name n) → lt k.name n = false
 | [],_,_,k,h=>by simp at h
 | x :: r, n, hp, k, h => by
  rw[List.pairwise_cons]at hp
  rw[List.dropWhile_cons]at h
  split at h
  ·exact dw_ge hp.2 k h
  ·next hx =>
   have hx:lt x.name n=false:=by simpa using hx
   rcases List.mem_cons.1 h with rfl|h
   ·exact hx
   ·cases e:lt k.name n with
    | false=>rfl
    | true=>rw[lt_trans (hp.1 k h) e]at hx;cases hx
theorem kid_none {t : Nd} {n : Bs} (h : t.kid n = none) : ∀ k, k ∈ t.kids → k.name ≠ n := fun k hk => by
 have:=List.find?_eq_none.1 h k hk
 simpa using this
theorem insK_pairwise {t k : Nd} (h : t.kids.Pairwise (fun a b => lt a.name b.name = true)) (hk : t.kid k.name = none) : (insK k t).kids.Pairwise (fun a b => lt a.name b.name = true) := by
 have e:=take_tw (fun q:Nd=>lt q.name k.name) t.kids
 simp only[insK,wk_kids,place]
 rw[e.1,e.2]
 have h2:=h
 rw[←List.takeWhile_append_dropWhile (p:=fun q:Nd=>lt q.name k.name) (l:=t.kids),List.pairwise_append]at h2
 have hne:=kid_none hk
 have hsub : ∀ q, q ∈ t.kids.dropWhile (fun q => lt q.name k.name) → lt k.name q.name = true := by
  intro q hq
  have h3:=dw_ge h q hq
  have h4:q ∈ t.kids:=(List.dropWhile_sublist _).mem hq
  rcases lt_total k.name q.name with g|g|g
  ·exact g
  ·exact absurd g.symm (hne q h4)
  ·rw[h3]at g;cases g
 rw[List.pairwise_append]
 refine⟨h2.1,?_,?_⟩
 ·rw[List.pairwise_cons];exact⟨hsub,h2.2.1⟩
 ·intro a ha b hb
  rcases List.mem_cons.1 hb with rfl|hb
  ·exact tw_lt a ha
  ·exact h2.2.2 a ha b hb
theorem mem_insK {t k q:Nd}:q ∈ (insK k t).kids↔q=k∨q ∈ t.kids:=by
 simp only[insK,wk_kids,List.mem_append,List.mem_cons]
 have:=List.take_append_drop (t.place k.name) t.kids
 constructor
 ·rintro(h|h|h)
  ·exact .inr (List.mem_of_mem_take h)
  ·exact .inl h
  ·exact .inr (List.mem_of_mem_drop h)
 ·rintro(h|h)
  ·exact .inr (.inl h)
  ·rw[←this]at h
   rcases List.mem_append.1 h with h|h
   ·exact .inl h
   ·exact .inr (.inr h)
theorem wf_insK {t k:Nd}(h:t.wf)(hk:t.kid k.name=none)(hw:l1Word k.name=true)(hkw:k.wf):(insK k t).wf:=by
 have h':=(wf_iff t).1 h
 refine(wf_iff _).2 ⟨insK_pairwise h'.1 hk,fun q hq=>?_⟩
 rcases mem_insK.1 hq with rfl|hq
 ·exact⟨hw,hkw⟩
 ·exact h'.2 q hq
theorem kid_wf {t:Nd}(h:t.wf)(n:Bs)(k:Nd):t.kid n=some k↔k ∈ t.kids∧k.name=n:=by
 constructor
 ·exact kid_some
 ·rintro⟨h1,rfl⟩;exact kid_of h h1
theorem kid_insK {t k : Nd} (h : t.wf) (hk : t.kid k.name = none) (hw : l1Word k.name = true) (hkw : k.wf) (n : Bs) : (insK k t).kid n = if n = k.name then some k else t.kid n := by
 have hi:=wf_insK h hk hw hkw
 by_cases e:n=k.name
 ·subst e
  simp only[if_true]
  exact(kid_wf hi _ _).2 ⟨mem_insK.2 (.inl rfl),rfl⟩
 ·simp only[e,if_false]
  cases hn:t.kid n with
  | none =>
   cases h2:(insK k t).kid n with
   | none=>rfl
   | some q =>
    obtain⟨h3,h4⟩:=kid_some h2
    rcases mem_insK.1 h3 with rfl|h3
    ·exact absurd h4.symm e
    ·exact absurd h4 (kid_none hn q h3)
  | some q =>
   obtain⟨h3,h4⟩:=kid_some hn
   exact(kid_wf hi _ _).2 ⟨mem_insK.2 (.inr h3),h4⟩
theorem att_leaf {k : Nd} (hl : k.kids = []) (ns : List Bs) : k.att ns = if ns = [] then some (k.dir, k.ids) else none := by
 cases ns with
 | nil=>simp[att,at_]
 | cons n r=>simp[att,at_,kid,hl]
theorem att_insK {t k : Nd} (h : t.wf) (hk : t.kid k.name = none) (hw : l1Word k.name = true) (hkw : k.wf) (hl : k.kids = []) (ms : List Bs) : (insK k t).att ms = if ms = [k.name] then some (k.dir, k.ids) else t.att ms := by
 cases ms with
 | nil=>simp[att,at_,insK,withKids,dir,ids]
 | cons m q =>
  have e1 : (insK k t).att (m :: q) = match (insK k t).kid m with
    | some k=>k.att q
    | none=>none:=by
   simp only[att,at_]
   cases (insK k t).kid m<;>rfl
  have e2 : t.att (m :: q) = match t.kid m with
    | some k=>k.att q
    | none=>none:=by
   simp only[att,at_]
   cases t.kid m<;>rfl
  rw[e1,e2,kid_insK h hk hw hkw m]
  by_cases e:m=k.name
  ·subst e
   simp only[if_true,hk,att_leaf hl]
   by_cases e3:q=[]
   ·subst e3;simp
   ·simp[e3]
  ·have:¬(m::q=[k.name]):=fun h=>e (by simp at h;exact h.1)
   simp only[e,this,if_false]
theorem place_kid : ∀ {l : List Nd} {k : Nd}, l.Pairwise (fun a b => lt a.name b.name = true) → k ∈ l → l[(l.takeWhile (fun q => lt q.name k.name)).length]? = some k
 | [],k,_,h=>by simp at h
 | x :: r, k, hp, h => by
  rw[List.pairwise_cons]at hp
  rw[List.takeWhile_cons]
  rcases List.mem_cons.1 h with rfl|h
  ·simp[lt_irrefl]
  ·simp only[hp.1 k h,if_true,List.length_cons,List.getElem?_cons_succ]
   exact place_kid hp.2 h
theorem place_some {t k:Nd}{n:Bs}(h:t.wf)(hk:t.kid n=some k):t.kids[t.place n]? = some k:=by
 obtain⟨h1,rfl⟩:=kid_some hk
 exact place_kid ((wf_iff t).1 h).1 h1
theorem mem_delK {t k q:Nd}{n:Bs}(h:t.wf)(hk:t.kid n=some k):q ∈ (delK n t).kids↔q ∈ t.kids∧q.name≠n:=by
 have hp:=place_some h hk
 obtain⟨_,hn⟩:=kid_some hk
 have hs:t.kids=t.kids.take (t.place n)++k::t.kids.drop (t.place n+1):=by
  rw[←drop_at hp,List.take_append_drop]
 have hpw:=((wf_iff t).1 h).1
 rw[hs,List.pairwise_append,List.pairwise_cons]at hpw
 simp only[delK,wk_kids,List.mem_append]
 constructor
 ·rintro(h1|h1)
  ·refine⟨List.mem_of_mem_take h1,?_⟩
   rw[←hn]
   exact lt_ne (hpw.2.2 q h1 k (by simp))
  ·refine⟨List.mem_of_mem_drop h1,?_⟩
   rw[←hn]
   exact fun e=>lt_ne (hpw.2.1.1 q h1) e.symm
 ·rintro⟨h1,h2⟩
  rw[hs]at h1
  rcases List.mem_append.1 h1 with h1|h1
  ·exact .inl h1
  ·rcases List.mem_cons.1 h1 with rfl|h1
   ·exact absurd hn h2
   ·exact .inr h1
theorem wf_delK {t k:Nd}{n:Bs}(h:t.wf)(hk:t.kid n=some k):(delK n t).wf:=by
 have h':=(wf_iff t).1 h
 refine(wf_iff _).2 ⟨?_,fun q hq=>h'.2 q ((mem_delK h hk).1 hq).1⟩
 refine h'.1.sublist ?_
 simp only[delK,wk_kids]
 rw[←List.eraseIdx_eq_take_drop_succ]
 exact List.eraseIdx_sublist _ _
theorem kid_delK {t k : Nd} {n : Bs} (h : t.wf) (hk : t.kid n = some k) (m : Bs) : (delK n t).kid m = if m = n then none else t.kid m := by
 have hi:=wf_delK h hk
 by_cases e:m=n
 ·subst e
  simp only[if_true]
  cases h2:(delK m t).kid m with
  | none=>rfl
  | some q =>
   obtain⟨h3,h4⟩:=kid_some h2
   exact absurd h4 ((mem_delK h hk).1 h3).2
 ·simp only[e,if_false]
  cases hn:t.kid m with
  | none =>
   cases h2:(delK n t).kid m with
   | none=>rfl
   | some q =>
    obtain⟨h3,h4⟩:=kid_some h2
    exact absurd h4 (kid_none hn q ((mem_delK h hk).1 h3).1)
  | some q =>
   obtain⟨h3,h4⟩:=kid_some hn
   exact(kid_wf hi _ _).2 ⟨(mem_delK h hk).2 ⟨h3,by rw[h4];exact e⟩,h4⟩
theorem att_delK {t k : Nd} {n : Bs} (h : t.wf) (hk : t.kid n = some k) (hl : k.kids = []) (ms : List Bs) : (delK n t).att ms = if ms = [n] then none else t.att ms := by
 cases ms with
 | nil=>simp[att,at_,delK,withKids,dir,ids]
 | cons m q =>
  have e1 : (delK n t).att (m :: q) = match (delK n t).kid m with
    | some k=>k.att q
    | none=>none:=by
   simp only[att,at_]
   cases (delK n t).kid m<;>rfl
  have e2 : t.att (m :: q) = match t.kid m with
    | some k=>k.att q
    | none=>none:=by
   simp only[att,at_]
   cases t.kid m<;>rfl
  rw[e1,e2,kid_delK h hk m]
  by_cases e:m=n
  ·subst e
   simp only[if_true,hk,att_leaf hl]
   by_cases e3:q=[]
   ·subst e3;simp
   ·simp[e3]
  ·have:¬(m::q=[n]):=fun h=>e (by simp at h;exact h.1)
   simp only[e,this,if_false]
theorem att_setIds (is : List Int) (t : Nd) (ms : List Bs) : (setIds is t).att ms = if ms = [] then some (t.dir, is) else t.att ms := by
 cases ms with
 | nil=>simp[att,at_,setIds,dir,ids]
 | cons m q=>simp only[List.cons_ne_nil,if_false,att,at_];rfl
theorem mem_updK {n : Bs} {f : Nd → Nd} : ∀ {l : List Nd} {q : Nd}, q ∈ updK n f l → q ∈ l ∨ ∃ k, l.find? (fun k => decide (k.name = n)) = some k ∧ q = f k
 | [],q,h=>by simp[updK]at h
 | k :: r, q, h => by
  unfold updK at h
  by_cases e:k.name=n
  ·simp only[e,if_true,List.mem_cons]at h
   rcases h with rfl|h
   ·exact .inr ⟨k,by simp[e],rfl⟩
   ·exact .inl (by simp[h])
  ·simp only[e,if_false,List.mem_cons]at h
   rcases h with rfl|h
   ·exact .inl (by simp)
   ·rcases mem_updK h with h|⟨k',h1,h2⟩
    ·exact .inl (by simp[h])
    ·exact .inr ⟨k',by simp[e,h1],h2⟩
theorem updK_names {n:Bs}{f:Nd→Nd}(hf:∀k,(f k).name=k.name):∀l:List Nd,(updK n f l).map (·.name)=l.map (·.name)
 | []=>rfl
 | k :: r => by
  unfold updK
  split
  ·simp[hf]
  ·simp[updK_names hf r]
theorem wf_upd {f:Nd→Nd}(hn:∀k,(f k).name=k.name):∀(ns:List Bs) (t d:Nd),t.wf→t.at_ ns=some d→(f d).wf→(t.upd ns f).wf
 | [],t,d,_,h,hf=>by simp only[at_,Option.some.injEq]at h;subst h;exact hf
 | n :: r, t, d, hw, h, hf => by
  simp only[at_]at h
  cases hkid:t.kid n with
  | none=>simp[hkid]at h
  | some q =>
   simp only[hkid]at h
   have hw':=(wf_iff t).1 hw
   refine(wf_iff _).2 ⟨?_,fun k hk=>?_⟩
   ·show(updK n (fun k=>upd k r f) t.kids).Pairwise _
    have h1:=hw'.1
    rw[←List.pairwise_map (f:=fun k:Nd=>k.name) (R:=fun a b=>lt a b=true)]at h1 ⊢
    rw[updK_names (fun k=>upd_name k f hn r)]
    exact h1
   ·rcases mem_updK hk with hk|⟨k',h1,rfl⟩
    ·exact hw'.2 k hk
    ·have:k'=q:=by unfold kid at hkid;rw[hkid]at h1;simpa using h1.symm
     subst this
     have hq:=hw'.2 k' (kid_some hkid).1
     exact⟨by rw[upd_name k' f hn];exact hq.1,wf_upd hn r k' d hq.2 h hf⟩
theorem sorted_ext:∀{l m:List BItem},l.Pairwise ltp→m.Pairwise ltp→(∀x,x ∈ l↔x ∈ m)→l=m
 | [],[],_,_,_=>rfl
 | [],y::m,_,_,h=>by have:=(h y).2 (by simp);simp at this
 | x::l,[],_,_,h=>by have:=(h x).1 (by simp);simp at this
 | x :: l, y :: m, hl, hm, h => by
  rw[List.pairwise_cons]at hl hm
  have e:x=y:=by
   rcases List.mem_cons.1 ((h x).1 (by simp)) with e|h1
   ·exact e
   ·rcases List.mem_cons.1 ((h y).2 (by simp)) with e|h2
    ·exact e.symm
    ·have:=lt_trans (hm.1 x h1) (hl.1 y h2)
     rw[lt_irrefl]at this;cases this
  subst e
  congr 1
  refine sorted_ext hl.2 hm.2 (fun z=>?_)
  constructor
  ·intro hz
   rcases List.mem_cons.1 ((h z).1 (by simp[hz])) with rfl|h1
   ·have:=hl.1 z hz;unfold ltp at this;rw[lt_irrefl]at this;cases this
   ·exact h1
  ·intro hz
   rcases List.mem_cons.1 ((h z).2 (by simp[hz])) with rfl|h1
   ·have:=hm.1 z hz;unfold ltp at this;rw[lt_irrefl]at this;cases this
   ·exact h1
theorem mem_att {t:Nd}(h:t.wf)(x:BItem):x ∈ t.flat []↔t.att (cut x.path)=some (x.dir,x.ids):=by
 rw[mem_flat h,att,Option.map_eq_some_iff]
 constructor
 ·rintro⟨k,h1,h2,h3⟩;exact⟨k,h1,by rw[h2,h3]⟩
 ·rintro⟨k,h1,h2⟩;simp only[Prod.mk.injEq]at h2;exact⟨k,h1,h2.1.symm,h2.2.symm⟩
end Fw.Nd
namespace Sp
open Fw
theorem last_spec (s : Bs) : ∀ k, k ≤ s.length → match (List.range k).foldl (lastF s) none with
  | none=>∀j,j<k→s[j]? ≠ some 47
  | some i=>i<k∧s[i]? = some 47∧∀j,i<j→j<k→s[j]? ≠ some 47
 | 0,_=>by simp
 | k + 1, h => by
  have ih:=last_spec s k (by omega)
  rw[last_succ]
  cases h0:(List.range k).foldl (lastF s) none with
  | none =>
   rw[h0]at ih
   by_cases e:s[k]? = some 47
   ·have:lastF s none k=some k:=by simp[lastF,e]
    rw[this]
    exact⟨by omega,e,fun j h1 h2=>by omega⟩
   ·have:lastF s none k=none:=by simp[lastF,e]
    rw[this]
    intro j hj
    rcases Nat.lt_or_ge j k with h1|h1
    ·exact ih j h1
    ·obtain rfl:j=k:=by omega
     exact e
  | some i =>
   rw[h0]at ih
   by_cases e:s[k]? = some 47
   ·have:lastF s (some i) k=some k:=by simp[lastF,e]
    rw[this]
    exact⟨by omega,e,fun j h1 h2=>by omega⟩
   ·have:lastF s (some i) k=some i:=by simp[lastF,e]
    rw[this]
    refine⟨by omega,ih.2.1,fun j h1 h2=>?_⟩
    rcases Nat.lt_or_ge j k with h3|h3
    ·exact ih.2.2 j h1 h3
    ·obtain rfl:j=k:=by omega
     exact e
theorem cut_app:∀(a b:Bs),cut (a++47::b)=cut a++cut b
 | [],b=>by simp[cut]
 | x :: a, b => by
  have ih:=cut_app a b
  simp only[List.cons_append,cut]
  by_cases e:x=47
  ·simp[e,ih]
  ·simp only[e,if_false,ih]
   cases h:cut a with
   | nil=>exact absurd h (cut_ne a)
   | cons w ws=>simp
theorem parent_cut (s:Bs):((cut s).length=1∧l5Parent s=[])∨(cut s=cut (l5Parent s)++[(cut s).getLast (cut_ne s)]∧2≤(cut s).length):=by
 have h:=last_spec s s.length (Nat.le_refl _)
 unfold l5Parent l1Last lastS
 cases h0:(List.range s.length).foldl (lastF s) none with
 | none =>
  rw[h0]at h
  left
  have hn : (47 : UInt8) ∉ s := fun hm => by
   obtain⟨j,hj⟩:=List.getElem?_of_mem hm
   exact h j (List.getElem?_eq_some_iff.1 hj).1 hj
  exact⟨by rw[cut_noslash hn];rfl,by simp only[optI];rfl⟩
 | some i =>
  rw[h0]at h
  obtain⟨h1,h2,h3⟩:=h
  right
  have hs:s=s.take i++47::s.drop (i+1):=by rw[←drop_at h2,List.take_append_drop]
  have hn : (47 : UInt8) ∉ s.drop (i + 1) := fun hm => by
   obtain⟨j,hj⟩:=List.getElem?_of_mem hm
   rw[List.getElem?_drop]at hj
   exact h3 (i+1+j) (by omega) (List.getElem?_eq_some_iff.1 hj).1 hj
  have hc:cut s=cut (s.take i)++[s.drop (i+1)]:=by
   conv=>lhs;rw[hs]
   rw[cut_app,cut_noslash hn]
  have hp:(s.take (max (optI (some i)) 0).toNat)=s.take i:=by
   have:(max (optI (some i)) 0).toNat=i:=by simp only[optI];omega
   rw[this]
  rw[hp]
  refine⟨?_,?_⟩
  ·have : (cut s).getLast (cut_ne s) = s.drop (i + 1) := by
    have h9:∀(l:List Bs) (h:l≠[]),l=cut (s.take i)++[s.drop (i+1)]→l.getLast h=s.drop (i+1):=by
     intro l h e;subst e;simp
    exact h9 _ _ hc
   rw[this];exact hc
  ·rw[hc]
   have:=List.length_pos_iff.2 (cut_ne (s.take i))
   simp
   omega
theorem parent_dropLast {s:Bs}(h:2≤(cut s).length):cut (l5Parent s)=(cut s).dropLast:=by
 rcases parent_cut s with h1|h1
 ·omega
 ·have:=congrArg List.dropLast h1.1
  rw[List.dropLast_concat]at this
  exact this.symm
def homeOK (L:List BItem)(p:Bs):Prop:=(cut p).length=1∨∃y,y ∈ L∧cut y.path=(cut p).dropLast∧y.dir=true
theorem pv_words {p:Bs}(h:PathValid p=true):(∀n,n ∈ cut p→l1Word n=true)∧(cut p).length≤4:=by
 simp only[PathValid,Bool.and_eq_true,List.all_eq_true,decide_eq_true_eq]at h
 exact h
theorem uniq_at {L:List BItem}(h:L.Pairwise Nd.ltp){p:Bs}:(∀i,atI L p=some i→∃y,L[i]? = some y∧y.path=p)∧(∀y,y ∈ L→y.path=p→∃i,atI L p=some i∧L[i]? = some y)∧(atI L p=none→∀y,y ∈ L→y.path≠p):=by
 refine⟨fun i hi=>?_,fun y hy hp=>?_,fun hn y hy=>?_⟩
 ·obtain⟨h1,h2,_⟩:=List.findIdx?_eq_some_iff_getElem.1 hi
  exact⟨L[i],by simp[h1],by simpa using h2⟩
 ·cases e:atI L p with
  | none =>
   have:=List.findIdx?_eq_none_iff.1 e y hy
   simp[hp]at this
  | some i =>
   obtain⟨h1,h2,_⟩:=List.findIdx?_eq_some_iff_getElem.1 e
   have h2:L[i].path=p:=by simpa using h2
   refine⟨i,rfl,?_⟩
   obtain⟨j,hj⟩:=List.getElem?_of_mem hy
   have hj':=List.getElem?_eq_some_iff.1 hj
   rcases Nat.lt_trichotomy i j with g|g|g
   ·have:=List.pairwise_iff_getElem.1 h i j h1 hj'.1 g
    rw[hj'.2]at this
    exact absurd (h2.trans hp.symm) (lt_ne this)
   ·rw[g];exact hj
   ·have:=List.pairwise_iff_getElem.1 h j i hj'.1 h1 g
    rw[hj'.2]at this
    exact absurd (h2.trans hp.symm).symm (lt_ne this)
 ·have:=List.findIdx?_eq_none_iff.1 hn y hy
  simpa using this
theorem home_iff {L:List BItem}(h:L.Pairwise Nd.ltp){p:Bs}(hp:PathValid p=true):l5Home L p=true↔homeOK L p:=by
 unfold l5Home homeOK
 obtain⟨u1,u2,u3⟩:=uniq_at h (p:=l5Parent p)
 rcases parent_cut p with ⟨h1,h2⟩|⟨h1,h2⟩
 ·simp[h1,h2]
 ·have hne : l5Parent p ≠ [] := fun e => by
   rw[e]at h1
   have:=(pv_words hp).1 [] (by rw[h1];simp[cut])
   exact word_ne this rfl
  have hl:¬(cut p).length=1:=by omega
  have hd:=parent_dropLast h2
  simp only[hne,decide_false,Bool.false_or,hl,false_or]
  constructor
  ·intro hh
   cases e:atI L (l5Parent p) with
   | none=>simp[e]at hh
   | some i =>
    obtain⟨y,hy,hyp⟩:=u1 i e
    simp only[e,hy]at hh
    exact⟨y,List.mem_of_getElem? hy,by rw[hyp,hd],hh⟩
  ·rintro⟨y,hy,hyp,hyd⟩
   have:y.path=l5Parent p:=cut_inj (by rw[hyp,hd])
   obtain⟨i,hi,hy2⟩:=u2 y hy this
   simp[hi,hy2,hyd]
structure VT (L:List BItem):Prop where
 asc:L.Pairwise Nd.ltp
 ok:∀x,x ∈ L→l5Item x=true
 home:∀x,x ∈ L→homeOK L x.path
 len:L.length≤12
theorem chain_path {L:List BItem}(h:∀i x y,L[i]? = some x→L[i+1]? = some y→lt x.path y.path=true):L.Pairwise Nd.ltp:=by
 rw[List.pairwise_iff_getElem]
 intro i j hi hj hij
 have key:∀d i (hi:i<L.length) (hj:i+d+1<L.length),lt L[i].path L[i+d+1].path=true:=by
  intro d
  induction d with
  | zero=>intro i hi hj;exact h i _ _ (List.getElem?_eq_getElem (by omega)) (List.getElem?_eq_getElem (by omega))
  | succ d ih =>
   intro i hi hj
   have h1:=ih i hi (by omega)
   have h2:=h (i+d+1) L[i+d+1] L[i+(d+1)+1] (List.getElem?_eq_getElem (by omega)) (List.getElem?_eq_getElem (by omega))
   exact lt_trans h1 h2
 have:=key (j-i-1) i hi (by omega)
 have e:i+(j-i-1)+1=j:=by omega
 simp only[e]at this
 exact this
theorem item_path {x:BItem}(h:l5Item x=true):PathValid x.path=true:=by simp only[l5Item,Bool.and_eq_true]at h;exact h.2.1
theorem tvalid_iff {L:List BItem}:TreeValid L=true↔VT L:=by
 constructor
 ·intro h
  simp only[TreeValid,Bool.and_eq_true,List.all_eq_true,List.mem_range,decide_eq_true_eq]at h
  obtain⟨h1,h2⟩:=h
  have at_:∀i x,L[i]? = some x→(l5Item x&&prevLt L i x&&l5Home L x.path)=true:=by
   intro i x hx
   have:=h1 i (List.getElem?_eq_some_iff.1 hx).1
   rwa [okT_at hx]at this
  have hasc:L.Pairwise Nd.ltp:=by
   refine chain_path fun i x y hx hy=>?_
   have:=at_ (i+1) y hy
   simp only[Bool.and_eq_true]at this
   have:=this.1.2
   simpa [prevLt,hx] using this
  refine⟨hasc,fun x hx=>?_,fun x hx=>?_,h2⟩
  ·obtain⟨i,hi⟩:=List.getElem?_of_mem hx
   have:=at_ i x hi
   simp only[Bool.and_eq_true]at this
   exact this.1.1
  ·obtain⟨i,hi⟩:=List.getElem?_of_mem hx
   have:=at_ i x hi
   simp only[Bool.and_eq_true]at this
   exact(home_iff hasc (item_path this.1.1)).1 this.2
 ·intro h
  simp only[TreeValid,Bool.and_eq_true,List.all_eq_true,List.mem_range,decide_eq_true_eq]
  refine⟨fun i hi=>?_,h.len⟩
  have hm:L[i] ∈ L:=by simp
  rw[okT_at (x:=L[i]) (by simp[hi]),h.ok _ hm,(home_iff h.asc (item_path (h.ok _ hm))).2 (h.home _ hm)]
  simp only[Bool.true_and,Bool.and_true]
  unfold prevLt
  by_cases h0:i=0
  ·simp[h0]
  ·have hl:i-1<L.length:=by omega
   have:=List.pairwise_iff_getElem.1 h.asc (i-1) i hl hi (by omega)
   simp[h0,hl]
   exact this
end Sp
namespace Fw.Nd
open Sp
theorem at_app : ∀ (a b : List Bs) (t : Nd), t.at_ (a ++ b) = (t.at_ a).bind (fun d => d.at_ b)
 | [],b,t=>rfl
 | n :: a, b, t => by
  simp only[List.cons_append,at_]
  cases t.kid n with
  | none=>rfl
  | some k=>exact at_app a b k
theorem at_snoc (a : List Bs) (n : Bs) (t : Nd) : t.at_ (a ++ [n]) = (t.at_ a).bind (fun d => d.kid n) := by
 rw[at_app]
 congr 1
 funext d
 simp only[at_]
 cases d.kid n<;>rfl
def dirOf (T : Nd) (p : Bs) : Option (Nd × Bs) := match parts p with
 | []=>none
 | n :: r => match T.at_ (n :: r).dropLast with
  | none=>none
  | some d=>if d.dir then some (d,(n::r).getLast (by simp)) else none
def find (T : Nd) (p : Bs) : Option Nd := match T.dirOf p with
 | none=>none
 | some x=>x.1.kid x.2
def ins (T : Nd) (x : BItem) (nb : Nat) : Option Nd := match T.dirOf x.path with
 | none=>none
 | some y=>if (y.1.kid y.2).isSome then none else some (T.upd (parts x.path).dropLast (insK (.mk nb y.2 x.dir x.ids [])))
def putN (T : Nd) (x : BItem) (nb : Nat) : Option Nd := match T.find x.path with
 | none=>if T.cnt<12 then T.ins x nb else none
 | some old=>if old.dir||x.dir then none else some (T.upd (parts x.path) (setIds x.ids))
def dropN (T : Nd) (p : Bs) : Option Nd := match T.dirOf p with
 | none=>none
 | some y => match y.1.kid y.2 with
  | none=>none
  | some k=>if 0<k.kids.length then none else some (T.upd (parts p).dropLast (delK y.2))
theorem parts_cut {p:Bs}(h:PathValid p=true):parts p=cut p:=by simp[parts,h]
theorem parts_none {p:Bs}(h:PathValid p=false):parts p=[]:=by simp[parts,h]
theorem dirOf_some {T:Nd}{p:Bs}{d:Nd}{n:Bs}(h:T.dirOf p=some (d,n)):PathValid p=true∧cut p=(cut p).dropLast++[n]∧T.at_ (cut p).dropLast=some d∧d.dir=true∧l1Word n=true:=by
 cases hp:PathValid p with
 | false=>simp[dirOf,parts_none hp]at h
 | true =>
  unfold dirOf at h
  rw[parts_cut hp]at h
  have hw:=(pv_words hp).1
  cases hc:cut p with
  | nil=>exact absurd hc (cut_ne p)
  | cons m r =>
   rw[hc]at h hw
   simp only at h
   cases ha:T.at_ (m::r).dropLast with
   | none=>simp[ha]at h
   | some q =>
    simp only[ha]at h
    by_cases hq:q.dir=true
    ·simp only[hq,if_true,Option.some.injEq,Prod.mk.injEq]at h
     obtain⟨rfl,rfl⟩:=h
     exact⟨rfl,(List.dropLast_concat_getLast (by simp)).symm,rfl,hq,hw _ (List.getLast_mem _)⟩
    ·simp[hq]at h
theorem dirOf_of {T:Nd}{p:Bs}(hp:PathValid p=true){d:Nd}(ha:T.at_ (cut p).dropLast=some d)(hd:d.dir=true):∃n,T.dirOf p=some (d,n)∧cut p=(cut p).dropLast++[n]:=by
 unfold dirOf
 rw[parts_cut hp]
 cases hc:cut p with
 | nil=>exact absurd hc (cut_ne p)
 | cons m r =>
  rw[hc]at ha
  simp only[ha,hd,if_true]
  exact⟨_,rfl,(List.dropLast_concat_getLast (by simp)).symm⟩
structure TOK (T:Nd) (L:List BItem):Prop where
 wf:T.wf
 dir:T.dir=true
 flat:T.flat []=L
 vt:VT L
theorem TOK.mem {T:Nd}{L:List BItem}(h:TOK T L)(x:BItem):x ∈ L↔T.att (cut x.path)=some (x.dir,x.ids):=by rw[←h.flat];exact mem_att h.wf x
theorem TOK.dirAt {T:Nd}{L:List BItem}(h:TOK T L){p:Bs}(hh:homeOK L p):∃d,T.at_ (cut p).dropLast=some d∧d.dir=true:=by
 rcases hh with hh|⟨y,hy,hyp,hyd⟩
 ·have : (cut p).dropLast = [] := by
   cases hc:cut p with
   | nil=>exact absurd hc (cut_ne p)
   | cons m r=>rw[hc]at hh;simp at hh;subst hh;rfl
  rw[this]
  exact⟨T,rfl,h.dir⟩
 ·have:=(h.mem y).1 hy
  rw[hyp,att,Option.map_eq_some_iff]at this
  obtain⟨d,h1,h2⟩:=this
  simp only[Prod.mk.injEq]at h2
  exact⟨d,h1,by rw[h2.1,hyd]⟩
theorem TOK.homeOf {T:Nd}{L:List BItem}(h:TOK T L){p:Bs}(hw:∀n,n ∈ cut p→l1Word n=true){d:Nd}(ha:T.at_ (cut p).dropLast=some d)(hd:d.dir=true):homeOK L p:=by
 by_cases hl:(cut p).length=1
 ·exact .inl hl
 ·right
  have hne : (cut p).dropLast ≠ [] := fun e => by
   have:=congrArg List.length e
   have:=List.length_pos_iff.2 (cut_ne p)
   simp at *
   omega
  have hcj:cut (join (cut p).dropLast)=(cut p).dropLast:=cut_join hne (fun n hn=>low_no47 (word_low (hw n ((List.dropLast_sublist _).mem hn))))
  refine⟨⟨join (cut p).dropLast,d.dir,d.ids⟩,(h.mem _).2 ?_,hcj,hd⟩
  simp only[hcj,att,ha,Option.map_some]
theorem find_at {T:Nd}{L:List BItem}(h:TOK T L){p:Bs}(hp:PathValid p=true):T.find p=T.at_ (cut p):=by
 unfold find
 cases hd:T.dirOf p with
 | some y =>
  obtain⟨d,n⟩:=y
  obtain⟨_,h1,h2,_⟩:=dirOf_some hd
  simp only
  conv=>rhs;rw[h1,at_snoc,h2]
  rfl
 | none =>
  simp only
  cases ha:T.at_ (cut p) with
  | none=>rfl
  | some k =>
   exfalso
   have hm:(⟨p,k.dir,k.ids⟩:BItem) ∈ L:=(h.mem _).2 (by simp[att,ha])
   obtain⟨d,h1,h2⟩:=h.dirAt (h.vt.home _ hm)
   obtain⟨n,h3,_⟩:=dirOf_of hp h1 h2
   rw[hd]at h3
   cases h3
theorem find_bad {T:Nd}{p:Bs}(hp:PathValid p=false):T.find p=none:=by simp[find,dirOf,parts_none hp]
theorem find_list {T : Nd} {L : List BItem} (h : TOK T L) (p : Bs) : (T.find p).map (fun k => (⟨p, k.dir, k.ids⟩ : BItem)) = (atI L p).bind (fun i => L[i]?) := by
 obtain⟨u1,u2,u3⟩:=uniq_at h.vt.asc (p:=p)
 cases hp:PathValid p with
 | false =>
  rw[find_bad hp]
  cases e:atI L p with
  | none=>rfl
  | some i =>
   obtain⟨y,hy,rfl⟩:=u1 i e
   have:=item_path (h.vt.ok y (List.mem_of_getElem? hy))
   rw[hp]at this;cases this
 | true =>
  rw[find_at h hp]
  cases ha:T.at_ (cut p) with
  | some k =>
   obtain⟨i,h1,h2⟩:=u2 ⟨p,k.dir,k.ids⟩ ((h.mem _).2 (by simp[att,ha])) rfl
   simp[h1,h2]
  | none =>
   cases e:atI L p with
   | none=>rfl
   | some i =>
    obtain⟨y,hy,rfl⟩:=u1 i e
    have:=(h.mem y).1 (List.mem_of_getElem? hy)
    simp[att,ha]at this
theorem flat_of {T:Nd}{M:List BItem}(hw:T.wf)(hM:M.Pairwise ltp)(h:∀x,x ∈ M↔T.att (cut x.path)=some (x.dir,x.ids)):T.flat []=M :=
 sorted_ext (flat_sorted hw []) hM (fun x=>by rw[mem_att hw,h])
theorem mem_putGo_t (x:BItem):∀(L:List BItem) (y:BItem),y ∈ putGo x true L↔y ∈ L∧y.path≠x.path
 | [],y=>by simp[putGo]
 | z :: r, y => by
  simp only[putGo,Bool.not_true,Bool.false_and,Bool.false_eq_true,if_false,Bool.true_or,List.nil_append,List.mem_append,mem_putGo_t x r y,List.mem_cons]
  by_cases e:z.path=x.path
  ·simp only[e,if_true,List.not_mem_nil,false_or]
   constructor
   ·rintro⟨h1,h2⟩;exact⟨.inr h1,h2⟩
   ·rintro⟨rfl|h1,h2⟩
    ·exact absurd e h2
    ·exact⟨h1,h2⟩
  ·simp only[e,if_false,List.mem_singleton]
   constructor
   ·rintro(rfl|⟨h1,h2⟩)
    ·exact⟨.inl rfl,e⟩
    ·exact⟨.inr h1,h2⟩
   ·rintro⟨rfl|h1,h2⟩
    ·exact .inl rfl
    ·exact .inr ⟨h1,h2⟩
theorem mem_putGo_f (x:BItem):∀(L:List BItem) (y:BItem),y ∈ putGo x false L↔y=x∨(y ∈ L∧y.path≠x.path)
 | [],y=>by simp[putGo]
 | z :: r, y => by
  simp only[putGo,Bool.not_false,Bool.true_and,Bool.false_or,List.mem_append,List.mem_cons]
  cases hl:lt z.path x.path with
  | true =>
   have hne:¬z.path=x.path:=lt_ne hl
   simp only[Bool.not_true,Bool.false_eq_true,if_false,List.not_mem_nil,false_or,hne,List.mem_singleton,mem_putGo_f x r y]
   constructor
   ·rintro(rfl|rfl|⟨h1,h2⟩)
    ·exact .inr ⟨.inl rfl,hne⟩
    ·exact .inl rfl
    ·exact .inr ⟨.inr h1,h2⟩
   ·rintro(rfl|⟨rfl|h1,h2⟩)
    ·exact .inr (.inl rfl)
    ·exact .inl rfl
    ·exact .inr (.inr ⟨h1,h2⟩)
  | false =>
   simp only[Bool.not_false,if_true,List.mem_singleton,mem_putGo_t x r y]
   by_cases e:z.path=x.path
   ·simp only[e,if_true,List.not_mem_nil,false_or]
    constructor
    ·rintro(rfl|⟨h1,h2⟩)
     ·exact .inl rfl
     ·exact .inr ⟨.inr h1,h2⟩
    ·rintro(rfl|⟨rfl|h1,h2⟩)
     ·exact .inl rfl
     ·exact absurd e h2
     ·exact .inr ⟨h1,h2⟩
   ·simp only[e,if_false,List.mem_singleton]
    constructor
    ·rintro(rfl|rfl|⟨h1,h2⟩)
     ·exact .inl rfl
     ·exact .inr ⟨.inl rfl,e⟩
     ·exact .inr ⟨.inr h1,h2⟩
    ·rintro(rfl|⟨rfl|h1,h2⟩)
     ·exact .inl rfl
     ·exact .inr (.inl rfl)
     ·exact .inr (.inr ⟨h1,h2⟩)
theorem putGo_sub (x:BItem):∀L:List BItem,(putGo x true L).Sublist L
 | []=>by simp[putGo]
 | z :: r => by
  simp only[putGo,Bool.not_true,Bool.false_and,Bool.false_eq_true,if_false,Bool.true_or,List.nil_append]
  split
  ·exact(putGo_sub x r).cons z
  ·exact(putGo_sub x r).cons_cons z
theorem putGo_sorted (x:BItem):∀L:List BItem,L.Pairwise ltp→(putGo x false L).Pairwise ltp
 | [],_=>by simp[putGo]
 | z :: r, h => by
  rw[List.pairwise_cons]at h
  simp only[putGo,Bool.not_false,Bool.true_and,Bool.false_or]
  cases hl:lt z.path x.path with
  | true =>
   have hne:¬z.path=x.path:=lt_ne hl
   simp only[Bool.not_true,Bool.false_eq_true,if_false,List.nil_append,hne,List.cons_append]
   rw[List.pairwise_cons]
   refine⟨fun y hy=>?_,putGo_sorted x r h.2⟩
   rcases (mem_putGo_f x r y).1 hy with rfl|⟨h1,_⟩
   ·exact hl
   ·exact h.1 y h1
  | false =>
   simp only[Bool.not_false,if_true,List.cons_append,List.nil_append]
   have hge:∀y,y ∈ r→ltp x y:=by
    intro y hy
    have h1:=h.1 y hy
    rcases lt_total z.path x.path with g|g|g
    ·rw[hl]at g;cases g
    ·show lt x.path y.path=true;rw[←g];exact h1
    ·exact lt_trans g h1
   have hs:=h.2.sublist (putGo_sub x r)
   by_cases e:z.path=x.path
   ·simp only[e,if_true,List.nil_append]
    rw[List.pairwise_cons]
    exact⟨fun y hy=>hge y ((putGo_sub x r).mem hy),hs⟩
   ·simp only[e,if_false,List.cons_append,List.nil_append]
    have hxz:ltp x z:=by
     rcases lt_total z.path x.path with g|g|g
     ·rw[hl]at g;cases g
     ·exact absurd g e
     ·exact g
    rw[List.pairwise_cons,List.pairwise_cons]
    refine⟨fun y hy=>?_,fun y hy=>h.1 y ((putGo_sub x r).mem hy),hs⟩
    rcases List.mem_cons.1 hy with rfl|hy
    ·exact hxz
    ·exact hge y ((putGo_sub x r).mem hy)
theorem len_putGo_new (x : BItem) : ∀ L : List BItem, (∀ y, y ∈ L → y.path ≠ x.path) → ∀ d, (putGo x d L).length = L.length + (if d then 0 else 1)
 | [],_,d=>by cases d<;>simp[putGo]
 | z :: r, h, d => by
  have hz:¬z.path=x.path:=h z (by simp)
  have ih:=len_putGo_new x r (fun y hy=>h y (by simp[hy]))
  simp only[putGo,hz,if_false,List.length_append,List.length_cons,List.length_nil,ih]
  cases d<;>cases lt z.path x.path<;>simp<;>omega
theorem att_none {T:Nd}{ns:List Bs}(h:T.at_ ns=none):T.att ns=none:=by simp[att,h]
theorem ins_spec {T T':Nd}{x:BItem}{nb:Nat}(hw:T.wf)(hd:T.dir=true)(h:T.ins x nb=some T') :
  T'.wf∧T'.dir=true∧T'.b=T.b∧T'.name=T.name∧(∀ms,T'.att ms=if ms=cut x.path then some (x.dir,x.ids) else T.att ms)∧T.att (cut x.path)=none∧∃d,T.at_ (cut x.path).dropLast=some d∧d.dir=true:=by
 unfold ins at h
 cases hdo:T.dirOf x.path with
 | none=>simp[hdo]at h
 | some y =>
  obtain⟨d,n⟩:=y
  simp only[hdo]at h
  obtain⟨hp,hc,ha,hdd,hn⟩:=dirOf_some hdo
  cases hk:d.kid n with
  | some k=>simp[hk]at h
  | none =>
   simp only[hk,Option.isSome_none,Bool.false_eq_true,if_false,Option.some.injEq]at h
   rw[parts_cut hp]at h
   subst h
   have hdw:=(at_words hw ha).1
   have hkw:(Nd.mk nb n x.dir x.ids []).wf:=(wf_iff _).2 ⟨by simp[kids],by simp[kids]⟩
   have hfw:(insK (.mk nb n x.dir x.ids []) d).wf:=wf_insK hdw hk hn hkw
   have hnone:T.att (cut x.path)=none:=by
    have e:=congrArg T.at_ hc
    rw[at_snoc,ha]at e
    simp only[Option.bind_some,hk]at e
    exact att_none e
   refine⟨wf_upd (f:=insK (.mk nb n x.dir x.ids [])) (fun _=>rfl) _ T d hw ha hfw,by rw[upd_dir T (insK (.mk nb n x.dir x.ids [])) (fun _=>rfl)];exact hd,?_,upd_name T (insK (.mk nb n x.dir x.ids [])) (fun _=>rfl) _,?_,hnone,d,ha,hdd⟩
   ·cases (cut x.path).dropLast<;>rfl
   ·intro ms
    rw[att_upd (f:=insK (.mk nb n x.dir x.ids [])) (fun _=>rfl) (fun _=>rfl) _ T d ha ms]
    by_cases hpre:(cut x.path).dropLast <+: ms
    ·obtain⟨q,rfl⟩:=hpre
     simp only[List.prefix_append,if_true,List.drop_left]
     rw[att_insK (k:= .mk nb n x.dir x.ids []) hdw hk hn hkw rfl]
     have e1:((cut x.path).dropLast++q=cut x.path)↔q=[n]:=by
      constructor
      ·intro e;rw[hc]at e;simp at e;exact e
      ·intro e;rw[e];exact hc.symm
     have e2:d.att q=T.att ((cut x.path).dropLast++q):=by simp only[att,at_app,ha,Option.bind_some]
     by_cases e:q=[n]
     ·simp only[e,if_true];rw[if_pos hc.symm];exact if_pos rfl
     ·have:¬((cut x.path).dropLast++q=cut x.path):=fun h=>e (e1.1 h)
      simp only[this,if_false]
      rw[←e2]
      exact if_neg e
    ·have:¬ms=cut x.path:=fun e=>hpre (by rw[e,hc];simp)
     simp only[hpre,this,if_false]
theorem ins_of {T:Nd}{x:BItem}{nb:Nat}(hp:PathValid x.path=true){d:Nd}(ha:T.at_ (cut x.path).dropLast=some d)(hd:d.dir=true)(hn:T.at_ (cut x.path)=none):∃T',T.ins x nb=some T':=by
 obtain⟨n,h1,h2⟩:=dirOf_of hp ha hd
 have hk:d.kid n=none:=by
  have e:=congrArg T.at_ h2
  rw[at_snoc,ha,hn]at e
  exact e.symm
 unfold ins
 rw[h1]
 simp[hk]
theorem put_mem {L:List BItem}{x y:BItem}:y ∈ l5Put L x↔y=x∨(y ∈ L∧y.path≠x.path):=mem_putGo_f x L y
theorem put_sorted {L:List BItem}(h:L.Pairwise ltp)(x:BItem):(l5Put L x).Pairwise ltp:=putGo_sorted x L h
theorem vt_put_new {L:List BItem}(h:VT L){x:BItem}(hx:l5Item x=true)(hh:homeOK L x.path)(hn:∀y,y ∈ L→y.path≠x.path)(hl:L.length<12):VT (l5Put L x):=by
 refine⟨put_sorted h.asc x,fun y hy=>?_,fun y hy=>?_,?_⟩
 ·rcases put_mem.1 hy with rfl|⟨h1,_⟩
  ·exact hx
  ·exact h.ok y h1
 ·have key : ∀ p, homeOK L p → homeOK (l5Put L x) p := by
   rintro p (h1|⟨z,hz,h2⟩)
   ·exact .inl h1
   ·exact .inr ⟨z,put_mem.2 (.inr ⟨hz,hn z hz⟩),h2⟩
  rcases put_mem.1 hy with rfl|⟨h1,_⟩
  ·exact key _ hh
  ·exact key _ (h.home y h1)
 ·have:=len_putGo_new x L hn false
  simp only[Bool.false_eq_true,if_false]at this
  unfold l5Put
  omega
theorem flat_put {T T' : Nd} {L : List BItem} {x : BItem} (h : TOK T L) (hw : T'.wf) (ha : ∀ ms, T'.att ms = if ms = cut x.path then some (x.dir, x.ids) else T.att ms) : T'.flat [] = l5Put L x := by
 refine flat_of hw (put_sorted h.vt.asc x) (fun y=>?_)
 rw[put_mem,ha]
 by_cases e:cut y.path=cut x.path
 ·have e':=cut_inj e
  simp only[e,if_true,e',ne_eq,not_true_eq_false,and_false,or_false,Option.some.injEq,Prod.mk.injEq]
  constructor
  ·rintro rfl;exact⟨rfl,rfl⟩
  ·rintro⟨h1,h2⟩
   obtain⟨p,d,i⟩:=y
   obtain⟨p',d',i'⟩:=x
   simp only at e' h1 h2
   subst e' h1 h2
   rfl
 ·have e':y.path≠x.path:=fun h=>e (by rw[h])
  simp only[e,if_false,e',ne_eq,not_false_eq_true,and_true,h.mem y]
  constructor
  ·rintro(rfl|h1)
   ·exact absurd rfl e'
   ·exact h1
  ·exact .inr
theorem tok_ins {T T':Nd}{L:List BItem}{x:BItem}{nb:Nat}(h:TOK T L)(hx:l5Item x=true)(hl:L.length<12)(hi:T.ins x nb=some T'):TOK T' (l5Put L x)∧(∀y,y ∈ L→y.path≠x.path)∧homeOK L x.path:=by
 obtain⟨h1,h2,_,_,h3,h4,d,h5,h6⟩:=ins_spec h.wf h.dir hi
 have hn : ∀ y, y ∈ L → y.path ≠ x.path := fun y hy e => by
  have:=(h.mem y).1 hy
  rw[e,h4]at this
  cases this
 have hh:=h.homeOf (pv_words (item_path hx)).1 h5 h6
 exact⟨⟨h1,h2,flat_put h h1 h3,vt_put_new h.vt hx hh hn hl⟩,hn,hh⟩
theorem atI_none {L:List BItem}{p:Bs}(h:∀y,y ∈ L→y.path≠p):atI L p=none:=List.findIdx?_eq_none_iff.2 (fun y hy=>by simpa using h y hy)
theorem put_none_new {T:Nd}{L:List BItem}{x:BItem}{nb:Nat}(h:TOK T L)(hx:l5Item x=true)(hn:∀y,y ∈ L→y.path≠x.path)(hbad:12≤L.length∨T.ins x nb=none):TreePut L x=none:=by
 have : ¬ TreeValid (l5Put L x) = true := fun hv => by
  have hv:=tvalid_iff.1 hv
  rcases hbad with hb|hb
  ·have:=hv.len
   have h2:=len_putGo_new x L hn false
   simp only[Bool.false_eq_true,if_false]at h2
   unfold l5Put at this
   omega
  ·have hh:=hv.home x (put_mem.2 (.inl rfl))
   have hh':homeOK L x.path:=by
    rcases hh with h1|⟨z,hz,h1,h2⟩
    ·exact .inl h1
    ·rcases put_mem.1 hz with rfl|⟨h3,_⟩
     ·exfalso
      have:=congrArg List.length h1
      simp at this
      have:=List.length_pos_iff.2 (cut_ne z.path)
      omega
     ·exact .inr ⟨z,h3,h1,h2⟩
   obtain⟨d,h1,h2⟩:=h.dirAt hh'
   have h3:T.at_ (cut x.path)=none:=by
    cases e:T.at_ (cut x.path) with
    | none=>rfl
    | some k=>exact absurd rfl (hn ⟨x.path,k.dir,k.ids⟩ ((h.mem _).2 (by simp[att,e])))
   obtain⟨T',h4⟩:=ins_of (nb:=nb) (item_path hx) h1 h2 h3
   rw[hb]at h4;cases h4
 simp[TreePut,atI_none hn,this]
theorem put_some_new {L:List BItem}{x:BItem}(hv:VT L)(hx:l5Item x=true)(hn:∀y,y ∈ L→y.path≠x.path)(hp:VT (l5Put L x)):TreePut L x=some (l5Put L x):=by
 simp[TreePut,tvalid_iff.2 hv,hx,atI_none hn,tvalid_iff.2 hp]
theorem vt_put_old {L:List BItem}(h:VT L){x y:BItem}(hx:l5Item x=true)(hy:y ∈ L)(hp:y.path=x.path)(hyd:y.dir=false):VT (l5Put L x):=by
 have hk : ∀ z, z ∈ L → z.path = x.path → z = y := fun z hz e => by
  obtain⟨_,u2,_⟩:=uniq_at h.asc (p:=x.path)
  obtain⟨i,h1,h2⟩:=u2 z hz e
  obtain⟨j,h3,h4⟩:=u2 y hy hp
  rw[h1]at h3
  cases h3
  rw[h2]at h4
  exact Option.some.inj h4
 refine⟨put_sorted h.asc x,fun z hz=>?_,fun z hz=>?_,?_⟩
 ·rcases put_mem.1 hz with rfl|⟨h1,_⟩
  ·exact hx
  ·exact h.ok z h1
 ·have key : ∀ p, homeOK L p → homeOK (l5Put L x) p := by
   rintro p (h1|⟨z,hz,h2,h3⟩)
   ·exact .inl h1
   ·refine .inr ⟨z,put_mem.2 (.inr ⟨hz,fun e=>?_⟩),h2,h3⟩
    have:=hk z hz e
    subst this
    rw[hyd]at h3;cases h3
  rcases put_mem.1 hz with rfl|⟨h1,_⟩
  ·have:=h.home y hy
   rw[hp]at this
   exact key _ this
  ·exact key _ (h.home z h1)
 ·
  have h1:=Sp.l5Put_len L x
  have:(l5Put L x).length≤L.length:=by
   have key:∀(L:List BItem),L.Pairwise ltp→(∃y,y ∈ L∧y.path=x.path)→(putGo x false L).length≤L.length:=by
    intro L
    induction L with
    | nil=>rintro _ ⟨y,hy,_⟩;simp at hy
    | cons z r ih =>
     rintro hs ⟨y,hy,hp⟩
     rw[List.pairwise_cons]at hs
     simp only[putGo,Bool.not_false,Bool.true_and,Bool.false_or,List.length_append,List.length_cons]
     cases hl:lt z.path x.path with
     | true =>
      have hne:¬z.path=x.path:=lt_ne hl
      have hyr:y ∈ r:=by
       rcases List.mem_cons.1 hy with rfl|h
       ·exact absurd hp hne
       ·exact h
      have:=ih hs.2 ⟨y,hyr,hp⟩
      simp only[Bool.not_true,Bool.false_eq_true,if_false,hne,List.length_nil,List.length_cons]
      omega
     | false =>
      have:=(putGo_sub x r).length_le
      by_cases e:z.path=x.path
      ·simp only[Bool.not_false,if_true,e,List.length_nil,List.length_cons]
       omega
      ·exfalso
       rcases List.mem_cons.1 hy with rfl|h
       ·exact e hp
       ·have:=hs.1 y h
        unfold ltp at this
        rw[hp,hl]at this
        cases this
   exact key L h.asc ⟨y,hy,hp⟩
  have:=h.len
  omega
theorem put_eq {T:Nd}{L:List BItem}{x:BItem}(nb:Nat)(h:TOK T L)(hx:l5Item x=true):(T.putN x nb).isSome=(TreePut L x).isSome∧∀T',T.putN x nb=some T'→TOK T' ((TreePut L x).getD []):=by
 have hp:=item_path hx
 unfold putN
 rw[find_at h hp]
 cases ha:T.at_ (cut x.path) with
 | none =>
  have hn : ∀ y, y ∈ L → y.path ≠ x.path := fun y hy e => by
   have:=(h.mem y).1 hy
   rw[e,att_none ha]at this
   cases this
  have hc:T.cnt=L.length:=by rw[←h.flat,flat_len]
  simp only[hc]
  by_cases hl:L.length<12
  ·simp only[hl,if_true]
   cases hi:T.ins x nb with
   | none=>rw[put_none_new h hx hn (.inr hi)];simp
   | some T' =>
    have ht:=tok_ins h hx hl hi
    rw[put_some_new h.vt hx hn ht.1.vt]
    exact⟨rfl,fun T2 e=>by cases e;exact ht.1⟩
  ·simp only[hl,if_false]
   rw[put_none_new (T:=T) (nb:=nb) h hx hn (.inl (by omega))]
   simp
 | some old =>
  have hm:(⟨x.path,old.dir,old.ids⟩:BItem) ∈ L:=(h.mem _).2 (by simp[att,ha])
  obtain⟨i,h1,h2⟩:=(uniq_at h.vt.asc (p:=x.path)).2.1 _ hm rfl
  simp only
  by_cases hd:(old.dir||x.dir)=true
  ·simp only[hd,if_true]
   have:TreePut L x=none:=by simp[TreePut,h1,h2,hd]
   rw[this];simp
  ·simp only[hd,Bool.false_eq_true,if_false]
   have hod:old.dir=false:=by
    cases e:old.dir with
    | false=>rfl
    | true=>simp[e]at hd
   have hxd:x.dir=false:=by
    cases e:x.dir with
    | false=>rfl
    | true=>simp[e]at hd
   have hv:=vt_put_old h.vt hx hm rfl hod
   have hput:TreePut L x=some (l5Put L x):=by
    simp[TreePut,tvalid_iff.2 h.vt,hx,h1,h2,hod,hxd,tvalid_iff.2 hv]
   rw[hput]
   refine⟨rfl,fun T' e=>?_⟩
   simp only[Option.some.injEq]at e
   subst e
   rw[parts_cut hp]
   have hfw:(setIds x.ids old).wf:=by
    have:=(at_words h.wf ha).1
    exact(wf_iff _).2 ((wf_iff old).1 this)
   have hw:=wf_upd (f:=setIds x.ids) (fun _=>rfl) _ T old h.wf ha hfw
   refine⟨hw,by rw[upd_dir T (setIds x.ids) (fun _=>rfl)];exact h.dir,flat_put h hw (fun ms=>?_),hv⟩
   rw[att_upd (f:=setIds x.ids) (fun _=>rfl) (fun _=>rfl) _ T old ha ms]
   by_cases hpre:cut x.path <+: ms
   ·obtain⟨q,rfl⟩:=hpre
    simp only[List.prefix_append,if_true,List.drop_left,att_setIds]
    have e2:old.att q=T.att (cut x.path++q):=by simp only[att,at_app,ha,Option.bind_some]
    by_cases e:q=[]
    ·subst e;simp[hod,hxd]
    ·have:¬(cut x.path++q=cut x.path):=fun h=>e (by simpa using h)
     simp only[e,this,if_false,e2]
   ·have:¬ms=cut x.path:=fun e=>hpre (by rw[e];exact List.prefix_refl _)
    simp only[hpre,this,if_false]
theorem mem_del {L:List BItem}(h:L.Pairwise ltp){p:Bs}{i:Nat}(hi:atI L p=some i)(y:BItem):y ∈ L.take i++L.drop (i+1)↔y ∈ L∧y.path≠p:=by
 obtain⟨u1,u2,_⟩:=uniq_at h (p:=p)
 obtain⟨z,hz,hp⟩:=u1 i hi
 have hs:L=L.take i++z::L.drop (i+1):=by rw[←drop_at hz,List.take_append_drop]
 have hpw:=h
 rw[hs,List.pairwise_append,List.pairwise_cons]at hpw
 rw[List.mem_append]
 constructor
 ·rintro(h1|h1)
  ·refine⟨List.mem_of_mem_take h1,?_⟩
   rw[←hp]
   exact lt_ne (hpw.2.2 y h1 z (by simp))
  ·refine⟨List.mem_of_mem_drop h1,?_⟩
   rw[←hp]
   exact fun e=>lt_ne (hpw.2.1.1 y h1) e.symm
 ·rintro⟨h1,h2⟩
  rw[hs]at h1
  rcases List.mem_append.1 h1 with h1|h1
  ·exact .inl h1
  ·rcases List.mem_cons.1 h1 with rfl|h1
   ·exact absurd hp h2
   ·exact .inr h1
theorem del_sub {α:Type}(L:List α)(i:Nat):(L.take i++L.drop (i+1)).Sublist L:=by
 rw[←List.eraseIdx_eq_take_drop_succ]
 exact List.eraseIdx_sublist _ _
theorem drop_eq {T:Nd}{L:List BItem}(h:TOK T L)(p:Bs):(T.dropN p).isSome=(TreeDrop L p).isSome∧∀T',T.dropN p=some T'→TOK T' ((TreeDrop L p).getD []):=by
 have hf:=find_list h p
 have hno:T.find p=none→TreeDrop L p=none:=by
  intro e
  rw[e]at hf
  cases ha:atI L p with
  | none=>simp[TreeDrop,ha]
  | some i =>
   obtain⟨y,hy,_⟩:=(uniq_at h.vt.asc (p:=p)).1 i ha
   rw[ha]at hf
   simp[hy]at hf
 unfold dropN
 cases hdo:T.dirOf p with
 | none =>
  have:T.find p=none:=by simp[find,hdo]
  rw[hno this];simp
 | some y =>
  obtain⟨d,n⟩:=y
  obtain⟨hp,hc,ha,hdd,hn⟩:=dirOf_some hdo
  cases hk:d.kid n with
  | none =>
   have:T.find p=none:=by simp[find,hdo,hk]
   rw[hno this];simp[hk]
  | some k =>
   have hfk:T.find p=some k:=by simp[find,hdo,hk]
   rw[hfk]at hf
   simp only[Option.map_some]at hf
   obtain⟨i,hi,hz⟩:=Option.bind_eq_some_iff.1 hf.symm
   have hat:T.at_ (cut p)=some k:=by rw[←find_at h hp];exact hfk
   have hkw:=at_words h.wf hat
   have hmem:=mem_del h.vt.asc hi
   simp only[hk]
   by_cases hl:0<k.kids.length
   ·simp only[hl,if_true]
    have hbad : ¬ TreeValid (L.take i ++ L.drop (i + 1)) = true := fun hv => by
     have hv:=tvalid_iff.1 hv
     have hq:k.kids[0] ∈ k.kids:=by simp
     have hqw:=((wf_iff k).1 hkw.1).2 _ hq
     have hcj : cut (join (cut p ++ [k.kids[0].name])) = cut p ++ [k.kids[0].name] := cut_join (by simp) (fun m hm => by
      rcases List.mem_append.1 hm with hm|hm
      ·exact low_no47 (word_low (hkw.2 m hm))
      ·simp at hm;subst hm;exact low_no47 (word_low hqw.1))
     have hin:(⟨join (cut p++[k.kids[0].name]),k.kids[0].dir,k.kids[0].ids⟩:BItem) ∈ L:=(h.mem _).2 (by
      simp only[hcj,att,at_snoc,hat,Option.bind_some,kid_of hkw.1 hq,Option.map_some])
     have hne : join (cut p ++ [k.kids[0].name]) ≠ p := fun e => by
      have:=congrArg (fun q=>(cut q).length) e
      simp only[hcj]at this
      simp at this
     rcases hv.home _ ((hmem _).2 ⟨hin,hne⟩) with h1|⟨z,hz1,hz2,_⟩
     ·simp only[hcj]at h1
      have:=List.length_pos_iff.2 (cut_ne p)
      rw[List.length_append,List.length_singleton]at h1
      omega
     ·simp only[hcj,List.dropLast_concat]at hz2
      exact((hmem z).1 hz1).2 (cut_inj hz2)
    have:TreeDrop L p=none:=by simp[TreeDrop,hi,hbad]
    rw[this];simp
   ·simp only[hl,if_false]
    have hl0:k.kids=[]:=List.eq_nil_of_length_eq_zero (by omega)
    have hv:VT (L.take i++L.drop (i+1)):=by
     have hs:=del_sub L i
     refine⟨h.vt.asc.sublist hs,fun y hy=>h.vt.ok y (hs.mem hy),fun y hy=>?_,Nat.le_trans hs.length_le h.vt.len⟩
     obtain⟨hyL,hyp⟩:=(hmem y).1 hy
     rcases h.vt.home y hyL with h1|⟨z,hz1,hz2,hz3⟩
     ·exact .inl h1
     ·refine .inr ⟨z,(hmem z).2 ⟨hz1,fun e=>?_⟩,hz2,hz3⟩
      subst e
      have hy2:=(h.mem y).1 hyL
      have hcy:cut y.path=cut z.path++[(cut y.path).getLast (cut_ne _)]:=by rw[hz2];exact(List.dropLast_concat_getLast _).symm
      rw[hcy,att,at_snoc,hat]at hy2
      simp[kid,hl0]at hy2
    have hdr:TreeDrop L p=some (L.take i++L.drop (i+1)):=by simp[TreeDrop,tvalid_iff.2 h.vt,hi,tvalid_iff.2 hv]
    rw[hdr]
    refine⟨rfl,fun T' e=>?_⟩
    simp only[Option.some.injEq]at e
    subst e
    rw[parts_cut hp]
    have hdw:=(at_words h.wf ha).1
    have hw:=wf_upd (f:=delK n) (fun _=>rfl) _ T d h.wf ha (wf_delK hdw hk)
    refine⟨hw,by rw[upd_dir T (delK n) (fun _=>rfl)];exact h.dir,flat_of hw hv.asc (fun y=>?_),hv⟩
    rw[Option.getD_some,hmem,h.mem y,att_upd (f:=delK n) (fun _=>rfl) (fun _=>rfl) _ T d ha]
    by_cases hpre:(cut p).dropLast <+: cut y.path
    ·obtain⟨q,hq⟩:=hpre
     rw[←hq]
     simp only[List.prefix_append,if_true,List.drop_left]
     rw[att_delK hdw hk hl0]
     have e2:d.att q=T.att ((cut p).dropLast++q):=by simp only[att,at_app,ha,Option.bind_some]
     by_cases e:q=[n]
     ·have:y.path=p:=cut_inj (by rw[←hq,e];exact hc.symm)
      simp[e,this]
     ·have:y.path≠p:=fun h=>e (by rw[h,hc]at hq;simpa using hq)
      simp only[e,if_false,e2,this,ne_eq,not_false_eq_true,and_true]
    ·have:y.path≠p:=fun e=>hpre (by rw[e,hc];simp)
     simp only[hpre,if_false,this,ne_eq,not_false_eq_true,and_true]
theorem putGo_last (x:BItem):∀{L:List BItem},(∀y,y ∈ L→lt y.path x.path=true)→putGo x false L=L++[x]
 | [],_=>rfl
 | z :: r, h => by
  have hz:=h z (by simp)
  have hne:¬z.path=x.path:=lt_ne hz
  have ih:=putGo_last x (L:=r) (fun y hy=>h y (by simp[hy]))
  simp only[putGo,hz,Bool.not_true,Bool.and_false,Bool.false_eq_true,if_false,hne,Bool.or_false,List.nil_append,List.cons_append,ih]
theorem tok_root (b:Nat):TOK (.mk b [] true [] []) []:=⟨(wf_iff _).2 ⟨by simp[kids],by simp[kids]⟩,rfl,rfl,.nil,by simp,by simp,by simp⟩
def lastPath (L:List BItem)(k:Nat):Bs:=if k=0 then[] else((L[k-1]?).map (·.path)).getD []
theorem lastPath_succ {L:List BItem}{k:Nat}{x:BItem}(h:L[k]? = some x):lastPath L (k+1)=x.path:=by simp[lastPath,h]
theorem last_all {L:List BItem}{k:Nat}{x:BItem}(hk:k<L.length)(hs:(L.take k).Pairwise ltp)(h:lt (lastPath L k) x.path=true):∀y,y ∈ L.take k→lt y.path x.path=true:=by
 intro y hy
 obtain⟨j,hj⟩:=List.getElem?_of_mem hy
 have hj':=List.getElem?_eq_some_iff.1 hj
 have hlen:(L.take k).length=k:=by simp;omega
 have hj1:=hj'.1
 have hk0:k≠0:=by omega
 have hk1:k-1<L.length:=by omega
 have hlast:lastPath L k=L[k-1].path:=by simp[lastPath,hk0,hk1]
 rw[hlast]at h
 by_cases e:j=k-1
 ·subst e
  have:y=L[k-1]:=by rw[←hj'.2];simp
  rw[this];exact h
 ·have h2:=List.pairwise_iff_getElem.1 hs j (k-1) hj'.1 (by omega) (by omega)
  rw[hj'.2]at h2
  have h3:(L.take k)[k-1]'(by omega)=L[k-1]:=by simp
  rw[h3]at h2
  exact lt_trans h2 h
theorem open_step {T T':Nd}{L:List BItem}{k:Nat}{x:BItem}{nb:Nat}(h:TOK T (L.take k))(hx:L[k]? = some x)(hl:L.length≤12)(hlt:lt (lastPath L k) x.path=true)(hi:l5Item x=true)(hins:T.ins x nb=some T'):TOK T' (L.take (k+1)):=by
 have hk:=(List.getElem?_eq_some_iff.1 hx).1
 have h1:=(tok_ins h hi (by simp;omega) hins).1
 have:l5Put (L.take k) x=L.take (k+1):=by
  rw[take_succ' hx]
  exact putGo_last x (last_all hk h.vt.asc hlt)
 rw[this]at h1
 exact h1
theorem open_must {T:Nd}{L:List BItem}{k:Nat}{x:BItem}(nb:Nat)(h:TOK T (L.take k))(hx:L[k]? = some x)(hv:TreeValid L=true):lt (lastPath L k) x.path=true∧l5Item x=true∧(T.ins x nb).isSome=true:=by
 have hv:=tvalid_iff.1 hv
 have hk:=List.getElem?_eq_some_iff.1 hx
 have hxm:=List.mem_of_getElem? hx
 have hi:=hv.ok x hxm
 have hbefore:∀y,y ∈ L→lt y.path x.path=true→y ∈ L.take k:=by
  intro y hy hlt
  obtain⟨j,hj⟩:=List.getElem?_of_mem hy
  have hj':=List.getElem?_eq_some_iff.1 hj
  have hj1:=hj'.1
  have:j<k:=by
   rcases Nat.lt_trichotomy j k with g|g|g
   ·exact g
   ·subst g
    rw[hj]at hx
    cases hx
    rw[lt_irrefl]at hlt;cases hlt
   ·have h2:=List.pairwise_iff_getElem.1 hv.asc k j hk.1 hj'.1 g
    rw[hk.2,hj'.2]at h2
    have:=lt_asymm h2
    rw[this]at hlt;cases hlt
  rw[List.mem_take_iff_getElem]
  exact⟨j,by omega,hj'.2⟩
 refine⟨?_,hi,?_⟩
 ·by_cases hk0:k=0
  ·subst hk0
   have hne : x.path ≠ [] := fun e => by
    have h1:=(pv_words (item_path hi)).1
    rw[e]at h1
    exact word_ne (h1 [] (by simp[cut])) rfl
   simp only[lastPath,if_true]
   have:=lt_ext (p:=[]) hne
   simpa using this
  ·have h1:k-1<L.length:=by have:=hk.1;omega
   have h2:=List.pairwise_iff_getElem.1 hv.asc (k-1) k h1 hk.1 (by omega)
   rw[hk.2]at h2
   simp only[lastPath,hk0,if_false]
   simp[h1]
   exact h2
 ·have hh : homeOK (L.take k) x.path := by
   rcases hv.home x hxm with h1|⟨z,hz,h1,h2⟩
   ·exact .inl h1
   ·refine .inr ⟨z,hbefore z hz ?_,h1,h2⟩
    have hcx:cut x.path=cut z.path++[(cut x.path).getLast (cut_ne _)]:=by rw[h1];exact(List.dropLast_concat_getLast _).symm
    have:x.path=z.path++47::(cut x.path).getLast (cut_ne _):=by
     apply cut_inj
     rw[cut_app,cut_noslash (cut_no47 _ _ (List.getLast_mem _))]
     exact hcx
    rw[this]
    exact lt_ext (by simp)
  obtain⟨d,h1,h2⟩:=h.dirAt hh
  have h3:T.at_ (cut x.path)=none:=by
   cases e:T.at_ (cut x.path) with
   | none=>rfl
   | some q =>
    exfalso
    have hm:(⟨x.path,q.dir,q.ids⟩:BItem) ∈ L.take k:=(h.mem _).2 (by simp[att,e])
    obtain⟨j,hj1,hj2⟩:=List.mem_take_iff_getElem.1 hm
    have hj3:j<k∧j<L.length:=by omega
    have h4:=List.pairwise_iff_getElem.1 hv.asc j k hj3.2 hk.1 hj3.1
    rw[hk.2,hj2]at h4
    unfold ltp at h4
    rw[lt_irrefl]at h4
    cases h4
  obtain⟨T',h4⟩:=ins_of (nb:=nb) (item_path hi) h1 h2 h3
  rw[h4];rfl
theorem tv_false {T:Nd}{L:List BItem}{k:Nat}{x:BItem}(nb:Nat)(h:TOK T (L.take k))(hx:L[k]? = some x)(hbad:lt (lastPath L k) x.path=false∨l5Item x=false∨T.ins x nb=none):TreeValid L=false:=by
 cases e:TreeValid L with
 | false=>rfl
 | true =>
  obtain⟨h1,h2,h3⟩:=open_must nb h hx e
  rcases hbad with g|g|g
  ·rw[h1]at g;cases g
  ·rw[h2]at g;cases g
  ·rw[g]at h3;cases h3
theorem tv_long {L:List BItem}(h:12<L.length):TreeValid L=false:=by
 have:¬L.length≤12:=by omega
 simp[TreeValid,this]
end Fw.Nd
namespace Fw
open Go
abbrev ptr (b:Nat):Value:= .pointer (some ⟨b,0,none⟩)
def kdE:PH→Nd→List Value→Prop:=fun _ k cs=>cs=[ptr k.b]
instance:MonoE kdE:=⟨fun _ h=>h⟩
mutual
def RdN (G:PH):Nd→Prop
 | .mk b nm d ids ks=>nm.length≤16777216∧(∃a m c a' m' c',PRow G b 0 [str nm,.bool d,.slice a m c,.slice a' m' c']∧RdI G (.slice a m c) ids∧RdS LIM kdE 1 G (.slice a' m' c') ks)∧RdNs G ks
def RdNs (G:PH):List Nd→Prop
 | []=>True
 | k::r=>RdN G k∧RdNs G r
end
theorem RdNs_iff {G:PH}:∀{l:List Nd},RdNs G l↔∀k,k ∈ l→RdN G k
 | []=>by simp[RdNs]
 | k::r=>by simp only[RdNs,RdNs_iff (l:=r),List.mem_cons,forall_eq_or_imp]
mutual
theorem RdN.upm {G G':PH}(hle:PLe G G'):∀{t:Nd},RdN G t→RdN G' t
 | .mk _ _ _ _ ks, h => by
  simp only[RdN]at h ⊢
  obtain⟨h1,⟨a,m,c,a',m',c',h2,h3,h4⟩,h5⟩:=h
  exact⟨h1,⟨a,m,c,a',m',c',h2.up hle,h3.up hle,h4.up hle⟩,RdNs.upm hle h5⟩
theorem RdNs.upm {G G':PH}(hle:PLe G G'):∀{l:List Nd},RdNs G l→RdNs G' l
 | [],_=>by simp[RdNs]
 | k :: r, h => by
  simp only[RdNs]at h ⊢
  exact⟨RdN.upm hle h.1,RdNs.upm hle h.2⟩
end
theorem RdN.up {G G':PH}{t:Nd}(h:RdN G t)(hle:PLe G G'):RdN G' t:=RdN.upm hle h
def ndE:PH→Nd→List Value→Prop:=fun G k cs=>cs=[ptr k.b]∧RdN G k
instance:MonoE ndE:=⟨fun hle h=>⟨h.1,h.2.up hle⟩⟩
abbrev RdNd:=RdS LIM ndE 1
theorem RdS.withN {G:PH}{v:Value}{ks:List Nd}(h:RdS LIM kdE 1 G v ks)(hk:∀k,k ∈ ks→RdN G k):RdNd G v ks:=by
 obtain⟨a,c,h1,h2,h3,h4⟩:=h
 refine⟨a,c,h1,h2,h3,h4.imp id (fun⟨b,o,h5,h6⟩=>⟨b,o,h5,fun i x hx=>?_⟩)⟩
 obtain⟨cs,e1,e2,e3⟩:=h6 i x hx
 exact⟨cs,e1,⟨e2,hk x (List.mem_of_getElem? hx)⟩,e3⟩
theorem RdN.open {G:PH}{t:Nd}(h:RdN G t):t.name.length≤16777216∧∃a m c a' m' c',PRow G t.b 0 [str t.name,.bool t.dir,.slice a m c,.slice a' m' c']∧RdI G (.slice a m c) t.ids∧RdNd G (.slice a' m' c') t.kids:=by
 obtain⟨b,nm,d,ids,ks⟩:=t
 simp only[RdN]at h
 obtain⟨h1,⟨a,m,c,a',m',c',h2,h3,h4⟩,h5⟩:=h
 exact⟨h1,a,m,c,a',m',c',h2,h3,h4.withN (RdNs_iff.1 h5)⟩
theorem RdN.kid {G:PH}{t k:Nd}(h:RdN G t)(hk:k ∈ t.kids):RdN G k:=by
 obtain⟨b,nm,d,ids,ks⟩:=t
 simp only[RdN]at h
 exact RdNs_iff.1 h.2.2 k hk
theorem RdN.at {G:PH}:∀{ns:List Bs} {t d:Nd},RdN G t→t.at_ ns=some d→RdN G d
 | [],t,d,h,ha=>by simp only[Nd.at_,Option.some.injEq]at ha;subst ha;exact h
 | n :: r, t, d, h, ha => by
  simp only[Nd.at_]at ha
  cases hk:t.kid n with
  | none=>simp[hk]at ha
  | some q =>
   simp only[hk]at ha
   exact RdN.at (h.kid (Nd.kid_some hk).1) ha
def RetV (w:World)(φ:Value→Prop):Ending→World→Prop:=fun e w'=>∃v,e= .returned v∧Ext w w'∧φ v
theorem Hp.retV {w0 w:World}{G0 G:PH}{B:List Res}{φ:Value→Prop}{v:Value}(H:Hp w0 G0 [] w G B)(h:φ v):RetV w0 φ (.returned v) w:=⟨v,rfl,H.toExt,h⟩
section
variable (NT PT:TypeId)
def KArr (ks:List Nd)(kv:Value)(Fk Fs:Fr):Prop :=
 (kv= .slice none 0 0∧ks=[]∧Fk=Fs) ∨
 ∃kb cap C,kv= .slice (some ⟨kb,0,none⟩) ks.length cap∧ks.length≤cap∧cap≤maxLen∧cap≤C.size∧C.toList.take ks.length=ks.map (fun k=>ptr k.b)∧Fk=(kb,.cells C PT (0,0))::Fs
mutual
def NdO (G:PH):Nd→Fr→Prop
 | .mk b nm d ids ks=>fun F=>nm.length≤16777216∧ks.length≤1099511627776∧∃a m c kv Fk Fs,F=(b,cl [str nm,.bool d,.slice a m c,kv] NT)::Fk∧RdI G (.slice a m c) ids∧KArr PT ks kv Fk Fs∧NdsO G ks Fs
def NdsO (G:PH):List Nd→Fr→Prop
 | []=>fun F=>F=[]
 | k::r=>fun F=>∃F1 F2,F=F1++F2∧NdO G k F1∧NdsO G r F2
end
end
section
variable {NT PT:TypeId}
mutual
theorem NdO.upm {G G':PH}(hle:PLe G G'):∀{t:Nd} {F:Fr},NdO NT PT G t F→NdO NT PT G' t F
 | .mk _ _ _ _ ks, F, h => by
  simp only[NdO]at h ⊢
  obtain⟨h1,h0,a,m,c,kv,Fk,Fs,h2,h3,h4,h5⟩:=h
  exact⟨h1,h0,a,m,c,kv,Fk,Fs,h2,h3.up hle,h4,NdsO.upm hle h5⟩
theorem NdsO.upm {G G':PH}(hle:PLe G G'):∀{l:List Nd} {F:Fr},NdsO NT PT G l F→NdsO NT PT G' l F
 | [],F,h=>by simpa [NdsO] using h
 | k :: r, F, h => by
  simp only[NdsO]at h ⊢
  obtain⟨F1,F2,h1,h2,h3⟩:=h
  exact⟨F1,F2,h1,NdO.upm hle h2,NdsO.upm hle h3⟩
end
theorem NdO.up {G G':PH}{t:Nd}{F:Fr}(h:NdO NT PT G t F)(hle:PLe G G'):NdO NT PT G' t F:=NdO.upm hle h
theorem NdsO.up {G G':PH}{t:List Nd}{F:Fr}(h:NdsO NT PT G t F)(hle:PLe G G'):NdsO NT PT G' t F:=NdsO.upm hle h
theorem KArr.rd {G:PH}{ks:List Nd}{kv:Value}{Fk Fs:Fr}(h:KArr PT ks kv Fk Fs)(hl:ks.length≤1099511627776)(hle:PLe (fh Fk) G):∃a m c,kv= .slice a m c∧RdS LIM kdE 1 G (.slice a m c) ks:=by
 rcases h with ⟨rfl,rfl,_⟩|⟨kb,cap,C,rfl,h1,h2,h3,h4,rfl⟩
 ·exact⟨_,_,_,rfl,RdS.nil _ _ _⟩
 ·refine⟨_,_,_,rfl,some ⟨kb,0,none⟩,cap,rfl,by simpa using h1,by simpa [LIM] using hl,.inr ⟨kb,0,rfl,fun i x hx=>?_⟩⟩
  refine⟨[ptr x.b],rfl,rfl,fun j u hu=>?_⟩
  have hj:j=0:=by
   have:=(List.getElem?_eq_some_iff.1 hu).1
   simp at this;exact this
  subst hj
  simp at hu
  subst hu
  refine⟨C,PT,(0,0),hle _ _ (by simp[fh]),?_⟩
  have h5:(C.toList.take ks.length)[i]? = some (ptr x.b):=by rw[h4,List.getElem?_map,hx];rfl
  rw[List.getElem?_take]at h5
  split at h5
  ·simpa using h5
  ·cases h5
mutual
theorem NdO.rd {G R:PH}(hle:PLe G R):∀{t:Nd} {F:Fr},NdO NT PT G t F→PLe (fh F) R→(dm F).Nodup→RdN R t
 | .mk b nm d ids ks, F, h, hF, hn => by
  simp only[NdO]at h
  simp only[RdN]
  obtain⟨h1,h0,a,m,c,kv,Fk,Fs,rfl,h3,h4,h5⟩:=h
  have hn':b ∉ dm Fk∧(dm Fk).Nodup:=by simpa [dm] using hn
  have hFk : PLe (fh Fk) R := fun x o hx => hF x o (by
   have:¬b=x:=fun e=>hn'.1 (by rw[e];exact fh_dm hx)
   simp[fh,this,hx])
  obtain⟨a',m',c',rfl,h6⟩:=h4.rd h0 hFk
  refine⟨h1,⟨a,m,c,a',m',c',fun j u hu=>⟨[str nm,.bool d,.slice a m c,.slice a' m' c'].toArray,NT,(0,0),hF b _ (by simp[fh,cl]),by rw[Nat.zero_add];simpa using hu⟩,h3.up hle,h6⟩,?_⟩
  rcases h4 with ⟨_,rfl,rfl⟩|⟨kb,cap,C,_,_,_,_,_,rfl⟩
  ·simp[RdNs]
  ·have hn2:kb ∉ dm Fs∧(dm Fs).Nodup:=by simpa [dm] using hn'.2
   exact NdsO.rd hle h5 (fun x o hx => hFk x o (by
    have:¬kb=x:=fun e=>hn2.1 (by rw[e];exact fh_dm hx)
    simp[fh,this,hx])) hn2.2
theorem NdsO.rd {G R:PH}(hle:PLe G R):∀{l:List Nd} {F:Fr},NdsO NT PT G l F→PLe (fh F) R→(dm F).Nodup→RdNs R l
 | [],_,_,_,_=>by simp[RdNs]
 | k :: r, F, h, hF, hn => by
  simp only[NdsO]at h
  simp only[RdNs]
  obtain⟨F1,F2,rfl,h2,h3⟩:=h
  rw[dm_append]at hn
  obtain⟨n1,n2,n3⟩:=List.nodup_append.1 hn
  exact⟨NdO.rd hle h2 ((fh_left _ _).trans hF) n1,NdsO.rd hle h3 ((fh_right (fun b h1 h2=>n3 b h1 b h2 rfl)).trans hF) n2⟩
end
theorem NdsO.at {G : PH} {n : Bs} : ∀ {l : List Nd} {F : Fr} {k : Nd}, NdsO NT PT G l F → l.find? (fun q => decide (q.name = n)) = some k →
  ∃Fk R,F.Perm (Fk++R)∧NdO NT PT G k Fk∧∀G' k' Fk',PLe G G'→NdO NT PT G' k' Fk'→∃F',F'.Perm (Fk'++R)∧NdsO NT PT G' (Nd.updK n (fun _=>k') l) F'
 | [],F,k,_,h=>by simp at h
 | q :: r, F, k, ho, h => by
  simp only[NdsO]at ho
  obtain⟨F1,F2,rfl,h2,h3⟩:=ho
  rw[List.find?_cons]at h
  by_cases e:q.name=n
  ·simp only[e,decide_true,Option.some.injEq]at h
   subst h
   refine⟨F1,F2,.refl _,h2,fun G' k' Fk' hle hk'=>⟨Fk'++F2,.refl _,?_⟩⟩
   simp only[Nd.updK,e,if_true,NdsO]
   exact⟨Fk',F2,rfl,hk',NdsO.upm hle h3⟩
  ·simp only[e,decide_false]at h
   obtain⟨Fk,R,p1,p2,p3⟩:=NdsO.at h3 h
   refine⟨Fk,F1++R,?_,p2,fun G' k' Fk' hle hk'=>?_⟩
   ·refine(List.Perm.append_left F1 p1).trans ?_
    rw[←List.append_assoc,←List.append_assoc]
    exact List.Perm.append_right R List.perm_append_comm
   ·obtain⟨F',g1,g2⟩:=p3 G' k' Fk' hle hk'
    refine⟨F1++F',?_,?_⟩
    ·refine(List.Perm.append_left F1 g1).trans ?_
     rw[←List.append_assoc,←List.append_assoc]
     exact List.Perm.append_right R List.perm_append_comm
    ·simp only[Nd.updK,e,if_false,NdsO]
     exact⟨F1,F',rfl,NdO.upm hle h2,g2⟩
theorem updK_b {n : Bs} {k k' : Nd} (hb : k'.b = k.b) : ∀ {l : List Nd}, l.find? (fun q => decide (q.name = n)) = some k → (Nd.updK n (fun _ => k') l).map (fun q => ptr q.b) = l.map (fun q => ptr q.b) ∧ (Nd.updK n (fun _ => k') l).length = l.length
 | [],h=>by simp at h
 | q :: r, h => by
  rw[List.find?_cons]at h
  by_cases e:q.name=n
  ·simp only[e,decide_true,Option.some.injEq]at h
   subst h
   simp[Nd.updK,e,hb]
  ·simp only[e,decide_false]at h
   have ih:=updK_b hb h
   simp[Nd.updK,e,ih.1,ih.2]
theorem NdO.focus {G:PH}:∀(ns:List Bs) {t d:Nd} {F:Fr},NdO NT PT G t F→t.at_ ns=some d →
  ∃Fd R,F.Perm (Fd++R)∧NdO NT PT G d Fd∧∀G' d' Fd',PLe G G'→NdO NT PT G' d' Fd'→d'.b=d.b→∃F',F'.Perm (Fd'++R)∧NdO NT PT G' (t.upd ns (fun _=>d')) F'∧(t.upd ns (fun _=>d')).b=t.b
 | [], t, d, F, h, ha => by
  simp only[Nd.at_,Option.some.injEq]at ha
  subst ha
  exact⟨F,[],by simp,h,fun G' d' Fd' _ hd' hb=>⟨Fd',by simp,hd',hb⟩⟩
 | n :: r, t, d, F, h, ha => by
  simp only[Nd.at_]at ha
  cases hk:t.kid n with
  | none=>simp[hk]at ha
  | some q =>
   simp only[hk]at ha
   obtain⟨b,nm,dr,ids,ks⟩:=t
   simp only[NdO]at h
   obtain⟨h1,h0,a,m,c,kv,Fk,Fs,rfl,h3,h4,h5⟩:=h
   obtain⟨Fq,R,p1,p2,p3⟩:=NdsO.at h5 hk
   obtain⟨Fd,R2,g1,g2,g3⟩:=NdO.focus r p2 ha
   have hk':ks.find? (fun q=>decide (q.name=n))=some q:=hk
   rcases h4 with ⟨_,rfl,_⟩|⟨kb,cap,C,rfl,k1,k2,k3,k4,rfl⟩
   ·simp at hk'
   ·refine⟨Fd,R2++R++[(b,cl [str nm,.bool dr,.slice a m c,.slice (some ⟨kb,0,none⟩) ks.length cap] NT),(kb,.cells C PT (0,0))],?_,g2,fun G' d' Fd' hle hd' hb=>?_⟩
    ·have e1:Fs.Perm (Fd++(R2++R)):=p1.trans (by rw[←List.append_assoc];exact List.Perm.append_right R g1)
     have e2:((b,cl [str nm,.bool dr,.slice a m c,.slice (some ⟨kb,0,none⟩) ks.length cap] NT)::(kb,.cells C PT (0,0))::Fs).Perm (Fs++[(b,cl [str nm,.bool dr,.slice a m c,.slice (some ⟨kb,0,none⟩) ks.length cap] NT),(kb,.cells C PT (0,0))]):=by
      have:=List.perm_append_comm (l₁:=[(b,cl [str nm,.bool dr,.slice a m c,.slice (some ⟨kb,0,none⟩) ks.length cap] NT),(kb,.cells C PT (0,0))]) (l₂:=Fs)
      exact this
     refine e2.trans ?_
     rw[←List.append_assoc]
     exact List.Perm.append_right _ e1
    ·obtain⟨Fq',u1,u2,u3⟩:=g3 G' d' Fd' hle hd' hb
     obtain⟨Fs',v1,v2⟩:=p3 G' _ Fq' hle u2
     have hub:=updK_b (k':=q.upd r (fun _=>d')) u3 hk'
     have heq : Nd.updK n (fun k => Nd.upd k r (fun _ => d')) ks = Nd.updK n (fun _ => q.upd r (fun _ => d')) ks := by
      have key : ∀ l : List Nd, l.find? (fun q => decide (q.name = n)) = some q → Nd.updK n (fun k => Nd.upd k r (fun _ => d')) l = Nd.updK n (fun _ => q.upd r (fun _ => d')) l := by
       intro l
       induction l with
       | nil=>simp
       | cons x t ih =>
        intro h
        rw[List.find?_cons]at h
        by_cases e:x.name=n
        ·simp only[e,decide_true,Option.some.injEq]at h
         subst h
         simp[Nd.updK,e]
        ·simp only[e,decide_false]at h
         simp[Nd.updK,e,ih h]
      exact key ks hk'
     refine⟨(b,cl [str nm,.bool dr,.slice a m c,.slice (some ⟨kb,0,none⟩) ks.length cap] NT)::(kb,.cells C PT (0,0))::Fs',?_,?_,rfl⟩
     ·have e1:Fs'.Perm (Fd'++(R2++R)):=v1.trans (by rw[←List.append_assoc];exact List.Perm.append_right R u1)
      have:=List.perm_append_comm (l₁:=[(b,cl [str nm,.bool dr,.slice a m c,.slice (some ⟨kb,0,none⟩) ks.length cap] NT),(kb,.cells C PT (0,0))]) (l₂:=Fs')
      refine this.trans ?_
      rw[←List.append_assoc]
      exact List.Perm.append_right _ e1
     ·simp only[Nd.upd,Nd.b,Nd.name,Nd.dir,Nd.ids,Nd.kids,heq,NdO]
      refine⟨h1,by rw[hub.2];exact h0,a,m,c,_,_,Fs',rfl,h3.up hle,.inr ⟨kb,cap,C,?_,?_,k2,k3,?_,rfl⟩,v2⟩
      ·rw[hub.2]
      ·rw[hub.2];exact k1
      ·rw[hub.2,hub.1];exact k4
end
end Fw
namespace Sp
open Fw
abbrev srt (ks:List Nd):Prop:=ks.Pairwise (fun a b=>lt a.name b.name=true)
def pl (ks:List Nd)(nm:Bs):Nat:=(ks.takeWhile (fun k=>lt k.name nm)).length
def fd (ks:List Nd)(nm:Bs):Option Nd:=ks.find? (fun k=>decide (k.name=nm))
def cmpB (a b:Bs):Int:=if lt a b then -1 else if a=b then 0 else 1
theorem cmpB_lt (a b:Bs):(cmpB a b<0)↔lt a b=true:=by unfold cmpB;split<;>(try split)<;>simp_all
theorem cmpB_eq (a b:Bs):(cmpB a b=0)↔a=b:=by
 unfold cmpB
 split
 ·rename_i h;simp;exact lt_ne h
 ·split<;>simp_all
theorem pw_lt {ks:List Nd}{nm:Bs}(hp:srt ks){h:Nat}{z:Nd}(hz:ks[h]? = some z)(hl:lt z.name nm=true):∀k x,k<h+1→ks[k]? = some x→lt x.name nm=true:=by
 intro k x hk hx
 rcases Nat.lt_or_ge k h with h1|h1
 ·obtain⟨hk1,rfl⟩:=List.getElem?_eq_some_iff.1 hx
  obtain⟨hk2,rfl⟩:=List.getElem?_eq_some_iff.1 hz
  exact lt_trans (List.pairwise_iff_getElem.1 hp k h hk1 hk2 h1) hl
 ·obtain rfl:k=h:=by omega
  rw[hx]at hz;cases hz;exact hl
theorem pw_ge {ks:List Nd}{nm:Bs}(hp:srt ks){h:Nat}{z:Nd}(hz:ks[h]? = some z)(hl:lt z.name nm=false):∀k x,h≤k→ks[k]? = some x→lt x.name nm=false:=by
 intro k x hk hx
 rcases Nat.lt_or_ge h k with h1|h1
 ·obtain⟨hk1,rfl⟩:=List.getElem?_eq_some_iff.1 hx
  obtain⟨hk2,rfl⟩:=List.getElem?_eq_some_iff.1 hz
  cases e:lt ks[k].name nm with
  | false=>rfl
  | true=>rw[lt_trans (List.pairwise_iff_getElem.1 hp h k hk2 hk1 h1) e]at hl;cases hl
 ·obtain rfl:k=h:=by omega
  rw[hx]at hz;cases hz;exact hl
theorem pl_of {nm:Bs}:∀{ks:List Nd} {i:Nat},i≤ks.length→(∀k x,k<i→ks[k]? = some x→lt x.name nm=true)→(∀k x,i≤k→ks[k]? = some x→lt x.name nm=false)→pl ks nm=i
 | [],i,h1,_,_=>by simp[pl]at *; omega
 | q :: r, i, h1, h2, h3 => by
  cases i with
  | zero =>
   have:=h3 0 q (Nat.le_refl _) rfl
   simp[pl,this]
  | succ i =>
   have:=h2 0 q (by omega) rfl
   have ih:=pl_of (ks:=r) (i:=i) (nm:=nm) (by simpa using h1) (fun k x hk hx=>h2 (k+1) x (by omega) (by simpa using hx)) (fun k x hk hx=>h3 (k+1) x (by omega) (by simpa using hx))
   unfold pl at ih ⊢
   rw[List.takeWhile_cons,this]
   simp[ih]
theorem fd_none {nm : Bs} {ks : List Nd} (h : ∀ (k : Nat) (x : Nd), ks[k]? = some x → x.name ≠ nm) : fd ks nm = none := List.find?_eq_none.2 (fun x hx => by
 obtain⟨k,hk⟩:=List.getElem?_of_mem hx
 simpa using h k x hk)
theorem fd_end {nm:Bs}{ks:List Nd}(h:∀(k:Nat) (x:Nd),k<ks.length→ks[k]? = some x→lt x.name nm=true):fd ks nm=none:=fd_none (fun k x hk=>lt_ne (h k x (List.getElem?_eq_some_iff.1 hk).1 hk))
theorem fd_at {nm:Bs}{ks:List Nd}(hp:srt ks){i:Nat}{z:Nd}(hz:ks[i]? = some z)(h:∀(k:Nat) (x:Nd),k<i→ks[k]? = some x→lt x.name nm=true)(h':∀(k:Nat) (x:Nd),i≤k→ks[k]? = some x→lt x.name nm=false):(fd ks nm).isSome=decide (z.name=nm)∧(z.name=nm→fd ks nm=some z):=by
 by_cases e:z.name=nm
 ·have : fd ks nm = some z := by
   have:=Nd.find_uniq hp (List.mem_of_getElem? hz)
   rw[e]at this
   exact this
  exact⟨by simp[this,e],fun _=>this⟩
 ·refine⟨?_,fun h=>absurd h e⟩
  have : fd ks nm = none := fd_none (fun k x hx => by
   rcases Nat.lt_trichotomy k i with h1|h1|h1
   ·exact lt_ne (h k x h1 hx)
   ·subst h1;rw[hx]at hz;cases hz;exact e
   ·intro e2
    obtain⟨hk1,rfl⟩:=List.getElem?_eq_some_iff.1 hx
    obtain⟨hk2,rfl⟩:=List.getElem?_eq_some_iff.1 hz
    have h3:=List.pairwise_iff_getElem.1 hp i k hk2 hk1 h1
    rw[e2]at h3
    rw[h' i _ (Nat.le_refl _) (by simp[hk2])]at h3;cases h3)
  simp[this,e]
end Sp
namespace Fw.Nd
open Sp
theorem at_step {t d:Nd}{ps:List Bs}{k:Nat}{z:Bs}(hz:ps[k]? = some z)(h:t.at_ (ps.take k)=some d):t.at_ (ps.take (k+1))=d.kid z:=by
 rw[List.take_succ,hz,Option.toList_some,at_snoc,h];rfl
theorem at_stop {t d:Nd}{ps:List Bs}{k:Nat}{z:Bs}(hz:ps[k]? = some z)(h:t.at_ (ps.take k)=some d)(hn:d.kid z=none):t.at_ ps=none:=by
 rw[←List.take_append_drop (k+1) ps,at_app,at_step hz h,hn];rfl
theorem at_one (d:Nd)(n:Bs):d.at_ [n]=d.kid n:=by
 simp only[at_]
 cases d.kid n<;>rfl
theorem find_at_ {T k:Nd}{p:Bs}(h:T.find p=some k):T.at_ (cut p)=some k:=by
 unfold find at h
 cases hd:T.dirOf p with
 | none=>simp[hd]at h
 | some q =>
  obtain⟨d,n⟩:=q
  simp only[hd]at h
  obtain⟨h1,h2,h3,h4,h5⟩:=dirOf_some hd
  rw[h2,at_snoc,h3]
  exact h
theorem dirOf_nil {T:Nd}{p:Bs}(h:(parts p).length=0):T.dirOf p=none:=by
 unfold dirOf
 rw[List.eq_nil_of_length_eq_zero h]
theorem dirOf_eq {T : Nd} {p z : Bs} {j : Nat} (hj : j + 1 = (parts p).length) (hz : (parts p)[j]? = some z) : T.dirOf p = (T.at_ ((parts p).take j)).bind (fun d => if d.dir then some (d, z) else none) := by
 unfold dirOf
 cases hp:parts p with
 | nil=>rw[hp]at hj;simp at hj
 | cons n r =>
  have e:(n::r).take j=(n::r).dropLast:=by rw[List.dropLast_eq_take,←hp,←hj];simp
  have hl : (n :: r).getLast (by simp) = z := by
   rw[hp]at hj hz
   rw[List.getLast_eq_getElem]
   have:(n::r).length-1=j:=by omega
   rw[List.getElem?_eq_some_iff]at hz
   obtain⟨h1,h2⟩:=hz
   simp only[this];exact h2
  simp only[hl,e]
  cases T.at_ (n::r).dropLast<;>rfl
theorem dirOf_no {T:Nd}{p:Bs}{j:Nat}(hj:j+1=(parts p).length)(h:T.at_ ((parts p).take j)=none):T.dirOf p=none:=by
 rw[dirOf_eq hj (List.getElem?_eq_getElem (by omega)),h];rfl
theorem dirOf_nodir {T d:Nd}{p:Bs}{j:Nat}(hj:j+1=(parts p).length)(h:T.at_ ((parts p).take j)=some d)(hd:d.dir=false):T.dirOf p=none:=by
 rw[dirOf_eq hj (List.getElem?_eq_getElem (by omega)),h];simp[hd]
theorem dirOf_yes {T d:Nd}{p z:Bs}{j:Nat}(hj:j+1=(parts p).length)(hz:(parts p)[j]? = some z)(h:T.at_ ((parts p).take j)=some d)(hd:d.dir=true):T.dirOf p=some (d,z):=by
 rw[dirOf_eq hj hz,h];simp[hd]
theorem find_no {T:Nd}{p:Bs}(h:T.dirOf p=none):T.find p=none:=by simp[find,h]
theorem find_yes {T d:Nd}{p n:Bs}(h:T.dirOf p=some (d,n)):T.find p=d.at_ [n]:=by simp[find,h,at_one]
theorem dir_wf {T d:Nd}{p n:Bs}(hw:T.wf)(h:T.dirOf p=some (d,n)):d.wf:=(at_words hw (dirOf_some h).2.2.1).1
theorem dir_len {T d:Nd}{p n:Bs}(h:T.dirOf p=some (d,n)):n.length≤16777216:=by
 have:=(dirOf_some h).2.2.2.2
 simp only[l1Word,Bool.and_eq_true,decide_eq_true_eq]at this
 omega
theorem cnts_mem {k:Nd}:∀{l:List Nd},k ∈ l→k.cnt+1≤cnts l
 | [],h=>by simp at h
 | q :: r, h => by
  simp only[cnts]
  rcases List.mem_cons.1 h with rfl|h
  ·omega
  ·have:=cnts_mem h;omega
theorem kids_cnt:∀l:List Nd,l.length≤cnts l
 | []=>by simp[cnts]
 | q::r=>by have:=kids_cnt r;simp only[cnts,List.length_cons];omega
theorem kid_cnt {t k:Nd}(h:k ∈ t.kids):k.cnt+1≤t.cnt:=by rw[cnt_eq t];exact cnts_mem h
theorem kids_le (t:Nd):t.kids.length≤t.cnt:=by rw[cnt_eq];exact kids_cnt _
theorem at_cnt:∀{ns:List Bs} {t d:Nd},t.at_ ns=some d→d.cnt≤t.cnt
 | [],t,d,h=>by simp only[at_,Option.some.injEq]at h;subst h;exact Nat.le_refl _
 | n :: r, t, d, h => by
  simp only[at_]at h
  cases hk:t.kid n with
  | none=>simp[hk]at h
  | some q =>
   simp only[hk]at h
   have:=at_cnt h
   have:=kid_cnt (kid_some hk).1
   omega
theorem cnts_succ {l:List Nd}{k:Nat}{z:Nd}(h:l[k]? = some z):cnts (l.take (k+1))=cnts (l.take k)+z.cnt+1:=by
 rw[List.take_succ,h,cnts_app];simp[cnts];omega
theorem upd_id : ∀ {ns : List Bs} {t d : Nd}, t.at_ ns = some d → t.upd ns (fun _ => d) = t
 | [],t,d,h=>by simp only[at_,Option.some.injEq]at h;subst h;rfl
 | n :: r, t, d, h => by
  simp only[at_]at h
  cases hk:t.kid n with
  | none=>simp[hk]at h
  | some q =>
   simp only[hk]at h
   have ih:=upd_id h
   have key : ∀ l : List Nd, l.find? (fun q => decide (q.name = n)) = some q → updK n (fun k => k.upd r (fun _ => d)) l = l := by
    intro l
    induction l with
    | nil=>simp
    | cons x s ih2 =>
     intro h
     rw[List.find?_cons]at h
     by_cases e:x.name=n
     ·simp only[e,decide_true,Option.some.injEq]at h
      subst h
      simp[updK,e,ih]
     ·simp only[e,decide_false]at h
      simp[updK,e,ih2 h]
   obtain⟨b,nm,dr,ids,ks⟩:=t
   simp only[upd,Nd.b,Nd.name,Nd.dir,Nd.ids,Nd.kids]
   rw[key ks hk]
theorem upd_fn {f : Nd → Nd} : ∀ {ns : List Bs} {t d : Nd}, t.at_ ns = some d → t.upd ns f = t.upd ns (fun _ => f d)
 | [],t,d,h=>by simp only[at_,Option.some.injEq]at h;subst h;rfl
 | n :: r, t, d, h => by
  simp only[at_]at h
  cases hk:t.kid n with
  | none=>simp[hk]at h
  | some q =>
   simp only[hk]at h
   have ih:=upd_fn (f:=f) h
   have key : ∀ l : List Nd, l.find? (fun q => decide (q.name = n)) = some q → updK n (fun k => k.upd r f) l = updK n (fun k => k.upd r (fun _ => f d)) l := by
    intro l
    induction l with
    | nil=>simp
    | cons x s ih2 =>
     intro h
     rw[List.find?_cons]at h
     by_cases e:x.name=n
     ·simp only[e,decide_true,Option.some.injEq]at h
      subst h
      simp[updK,e,ih]
     ·simp only[e,decide_false]at h
      simp[updK,e,ih2 h]
   simp only[upd]
   rw[key t.kids hk]
theorem ins_no1 {t:Nd}{x:BItem}{nb:Nat}(h:t.dirOf x.path=none):t.ins x nb=none:=by simp[ins,h]
theorem ins_no2 {t d:Nd}{x:BItem}{nm:Bs}{nb:Nat}(h:t.dirOf x.path=some (d,nm))(hf:(fd d.kids nm).isSome=true):t.ins x nb=none:=by
 have:(d.kid nm).isSome=true:=hf
 simp[ins,h,this]
theorem ins_yes {t d:Nd}{x:BItem}{nm:Bs}{nb:Nat}(h:t.dirOf x.path=some (d,nm))(hf:(fd d.kids nm).isSome=false) :
  t.ins x nb=some (t.upd (cut x.path).dropLast (fun _=> .mk d.b d.name d.dir d.ids (d.kids.take (pl d.kids nm)++ .mk nb nm x.dir x.ids []::d.kids.drop (pl d.kids nm)))):=by
 have h2:(d.kid nm).isSome=false:=hf
 obtain⟨g1,_,g3,_⟩:=dirOf_some h
 simp only[ins,h,h2,Bool.false_eq_true,if_false,parts_cut g1]
 rw[upd_fn g3];rfl
theorem drop_no1 {t:Nd}{p:Bs}(h:t.dirOf p=none):t.dropN p=none:=by simp[dropN,h]
theorem drop_no2 {t d:Nd}{p nm:Bs}(h:t.dirOf p=some (d,nm))(hf:(fd d.kids nm).isSome=false):t.dropN p=none:=by
 have h0:fd d.kids nm=none:=by simpa using hf
 have:d.kid nm=none:=h0
 simp[dropN,h,this]
theorem drop_no3 {t d k:Nd}{p nm:Bs}(h:t.dirOf p=some (d,nm))(hf:fd d.kids nm=some k)(hk:0<k.kids.length):t.dropN p=none:=by
 have:d.kid nm=some k:=hf
 simp[dropN,h,this,hk]
theorem drop_yes {t d k:Nd}{p nm:Bs}(h:t.dirOf p=some (d,nm))(hf:fd d.kids nm=some k)(hk:¬0<k.kids.length) :
  t.dropN p=some (t.upd (cut p).dropLast (fun _=> .mk d.b d.name d.dir d.ids (d.kids.take (pl d.kids nm)++d.kids.drop (pl d.kids nm+1)))):=by
 have h2:d.kid nm=some k:=hf
 obtain⟨g1,_,g3,_⟩:=dirOf_some h
 simp only[dropN,h,h2,hk,if_false,parts_cut g1]
 rw[upd_fn g3];rfl
theorem put_no1 {t:Nd}{x:BItem}{nb:Nat}(h:t.find x.path=none)(hc:¬t.cnt<12):t.putN x nb=none:=by simp[putN,h,hc]
theorem put_ins {t:Nd}{x:BItem}{nb:Nat}(h:t.find x.path=none)(hc:t.cnt<12):t.putN x nb=t.ins x nb:=by simp[putN,h,hc]
theorem put_no2 {t d:Nd}{x:BItem}{nb:Nat}(h:t.find x.path=some d)(hc:(d.dir||x.dir)=true):t.putN x nb=none:=by simp only[putN,h,hc,if_true]
theorem put_set {t d : Nd} {x : BItem} {nb : Nat} (h : t.find x.path = some d) (hc : (d.dir || x.dir) = false) : t.putN x nb = some (t.upd (cut x.path) (fun _ => .mk d.b d.name d.dir x.ids d.kids)) := by
 have g1:PathValid x.path=true:=by
  cases hp:PathValid x.path with
  | true=>rfl
  | false=>rw[find_bad hp]at h;cases h
 simp only[putN,h,hc,Bool.false_eq_true,if_false,parts_cut g1]
 rw[upd_fn (find_at_ h)];rfl
end Fw.Nd
namespace Sp
open Fw
theorem pl_le (ks:List Nd)(nm:Bs):pl ks nm≤ks.length:=(List.takeWhile_prefix _).length_le
end Sp
namespace Fw.Nd
theorem cnts_take:∀(l:List Nd) (k:Nat),cnts (l.take k)≤cnts l
 | [],k=>by simp
 | q::r,0=>by simp[cnts]
 | q::r,k+1=>by have:=cnts_take r k;simp only[List.take_succ_cons,cnts];omega
theorem upd_same {t d:Nd}{ns:List Bs}(h:t.at_ ns=some d):t.upd ns (fun _=> .mk d.b d.name d.dir d.ids d.kids)=t:=by rw[←eta d];exact upd_id h
end Fw.Nd
namespace Fw.Nd
open Sp
theorem TOK.cnt {T:Nd}{L:List BItem}(h:TOK T L):T.cnt=L.length:=by rw[←flat_len [] T,h.flat]
theorem TOK.valid {T:Nd}{L:List BItem}(h:TOK T L):TreeValid L=true:=tvalid_iff.2 h.vt
theorem getD_some {o:Option Nd}{T t:Nd}(h:o.getD T=t)(hs:o.isSome=true):o=some t:=by
 cases o with
 | none=>cases hs
 | some x=>simp only[Option.getD_some]at h;rw[h]
theorem leq_no {p q:Bs}(h:lt p q=true∨p=q):lt q p=false:=by
 rcases h with h|rfl
 ·exact lt_asymm h
 ·exact lt_irrefl p
theorem leq_yes {p q:Bs}(h1:lt p q=false)(h2:p≠q):lt q p=true:=by
 rcases lt_total p q with h|h|h
 ·rw[h]at h1;cases h1
 ·exact absurd h h2
 ·exact h
theorem word_le {n:Bs}(h:l1Word n=true):n.length≤5:=by
 simp only[l1Word,Bool.and_eq_true,decide_eq_true_eq]at h
 exact h.2
theorem flats_succ {s:Bs}{l:List Nd}{k:Nat}{z:Nd}(h:l[k]? = some z):flats s (l.take (k+1))=flats s (l.take k)++(⟨s++z.name,z.dir,z.ids⟩::z.flat (s++z.name++[47])):=by
 rw[List.take_succ,h,flats_app];simp[flats]
end Fw.Nd
namespace Fw
open Go
section ops
variable {P:Program} {n:Nat} {ops:Array Oper} {Q:Post} {rest:List Oper} {L:Slots} {ds:List Deferred} {w w0:World} {G0:PH} {S:List Nat} {G:PH} {B:List Res}
variable {ty:TypeId} {ps:String} {af:Array Edge}
theorem o_shr1 {d:Nat}{x y:Operand}{t u:TypeId}{k k':IntKind}{p:Int}(hd:Nat.blt d n=true)(hx:od L x=some (.int k p))(hy:od L y=some (.int k' 1))(hk:1≤k.bits)
  (next:R P n ops Q rest ((d,.int k (p / 2))::L) ds w):R P n ops Q (⟨some d,.binOp .shr t x y u,ty,ps,af,none⟩::rest) L ds w :=
 R_run hd (fun a ha => by
  have h1:min 1 k.bits=1:=by omega
  have h2:Op.shift .shr k p k' 1=pure (.int k (p / 2)):=by
   rw[shift_shr_any k k' p 1 (by decide)]
   simp[h1]
  simp[execOp,ha.eval hx,ha.eval hy,binOp,eqGuard,h2]) next
theorem o_callv {d:Nat}{f:FuncId}{c:Operand}{xs:List Operand}{ts:Array TypeId}{vs:List Value}{C:Ending→World→Prop}(hf:∀args w,(callFunc f args).run P w= .ok (.enter f args) w)(hd:Nat.blt d n=true)
  (hc0:od L c=some (.func (.func f) #[] #[])) (hx:ods L xs=some vs) (hc:Calls P f vs.toArray w C) (next:∀e w',C e w'→∃v,e= .returned v∧R P n ops Q rest ((d,v)::L) ds w') :
  R P n ops Q (⟨some d,.call ⟨.value c,xs.toArray,ts⟩,ty,ps,af,none⟩::rest) L ds w:=by
 intro a ha
 refine wpList_plain rfl fun K hK=>?_
 have e:xs.map a.eval=vs:=ha.evals xs vs hx
 have hr:(execOp a.eval ⟨some d,.call ⟨.value c,xs.toArray,ts⟩,ty,ps,af,none⟩).run P w= .ok (.enter f vs.toArray) w:=by
  simp[execOp,resolve,invoke,ha.eval hc0,Deferred.ofValue,e,hf]
 unfold Oper.wp
 rw[hr,Oper.upon_enter]
 refine hc.mono fun e w' hC=>?_
 obtain⟨v,rfl,h⟩:=next e w' hC
 exact hK _ _ (h _ (ha.put hd v))
theorem setCells_blk:∀(vs:List Value) (o:Nat) (l:List Value) (w:World) {k b:Nat} {B:List Res} {e:TypeId},Hp w0 G0 S w G B→nth B k=some (blk b (cl l e))→Hp w0 G0 S (w.setCells b o vs) G (setN B k (blk b (cl (setCs l o vs) e)))
 | [], o, l, w, k, b, B, e, H, hk => by
  simp only[setCs,World.setCells]
  rw[show setN B k (blk b (cl l e))=B from ?_]
  ·exact H
  ·obtain⟨B1,B2,h1,h2,_⟩:=fps_split hk
   rw[h2,h1]
 | v :: r, o, l, w, k, b, B, e, H, hk => by
  have H1:=setCell_blk H hk (o:=o) v
  have hk1:nth (setN B k (blk b (cl (setN l o v) e))) k=some (blk b (cl (setN l o v) e)):=by
   have:k<B.length:=by rw[nth_eq]at hk;exact(List.getElem?_eq_some_iff.1 hk).1
   rw[nth_eq,setN_eq];simp[this]
  have H2:=setCells_blk r (o+1) (setN l o v) _ H1 hk1
  simp only[setCs,World.setCells]
  simpa [setN_eq,List.set_set] using H2
theorem Hp.accSet (H:Hp w0 G0 S w G B){k m c q b o:Nat}{e:TypeId}{cells vs:List Value}(hk:nth B k=some (acc e 1 (.slice (some ⟨b,0,none⟩) m c) q cells))(hlen:o+vs.length≤c) :
  Hp w0 G0 S (w.setCells b o vs) G (setN B k (acc e 1 (.slice (some ⟨b,0,none⟩) m c) q (setCs cells o vs)))∧(∀j,j<vs.length→(w.cell? ⟨b,o+j,none⟩).isSome=true)∧(∀j,j<vs.length→w.frozen? ⟨b,o+j,none⟩=false):=by
 obtain⟨h0,h⟩:=(H.own _ (nth_mem hk)).1
 rcases h with ⟨h,_⟩|⟨b',cap,C,g1,g2,g3,g4,g5,g6⟩
 ·cases h
 simp only[Value.slice.injEq,Option.some.injEq,Addr.mk.injEq]at g1
 obtain⟨⟨rfl,_⟩,rfl,rfl⟩:=g1
 have hkl:k<B.length:=by rw[nth_eq]at hk;exact(List.getElem?_eq_some_iff.1 hk).1
 have H1:Hp w0 G0 S w G (setN B k (blk b (cl C.toList e))):=H.upd hk rfl rfl rfl (Nat.le_refl _) (fun _ _ _=>rfl) _ (by show w.heap[b]? = _;simpa using g2) (fun c hc=>by simp[blk]at hc;left;simp[acc_fp,hc]) (by simp[blk])
 have hk1:nth (setN B k (blk b (cl C.toList e))) k=some (blk b (cl C.toList e)):=by rw[nth_eq,setN_eq];simp[hkl]
 have H2:=setCells_blk vs o C.toList w H1 hk1
 have hk2:nth (setN (setN B k (blk b (cl C.toList e))) k (blk b (cl (setCs C.toList o vs) e))) k=some (blk b (cl (setCs C.toList o vs) e)):=by rw[nth_eq,setN_eq,setN_eq];simp[hkl]
 have hb:=(H2.own _ (nth_mem hk2)).1
 refine⟨?_,fun j hj=>?_,fun j hj=>frozen_blk H1 hk1⟩
 ·have H3:=H2.upd hk2 rfl rfl rfl (Nat.le_refl _) (fun _ _ _=>rfl) (acc e 1 (.slice (some ⟨b,0,none⟩) m c) m (setCs cells o vs)) ⟨by rw[length_setCs];exact h0,.inr ⟨b,c,(setCs C.toList o vs).toArray,rfl,hb,g3,g4,by simpa [length_setCs] using g5,by rw[←g6,←setCs_take]⟩⟩ (fun c hc=>by simp[acc_fp]at hc;left;simp[blk,hc]) (by simp[acc_fp])
  simpa [setN_eq,List.set_set] using H3
 ·have hj':o+j<C.size:=by omega
  rw[blk_cell H1 hk1 (o:=o+j) (v:=C[o+j]) (by simp[hj'])]
  rfl
theorem setCs_past:∀(vs l:List Value) (o:Nat),l.length≤o→setCs l o vs=l
 | [],_,_,_=>rfl
 | v :: r, l, o, h => by
  simp only[setCs]
  rw[setN_eq,List.set_eq_of_length_le h]
  exact setCs_past r l (o+1) (by omega)
theorem o_copy (k:Nat)(H:Hp w0 G0 S w G B){d:Nat}{t e:TypeId}{i:TypeInfo}{x y:Operand}{b o m c q dl dc sl sc:Nat}{a:Addr}{cells:List Value}(cs:List Value)(hU:P.underlying t=some (.slice e))(hI:∀w,(typeInfo e).run P w= .ok i w)(hs:i.size=1)(hd:Nat.blt d n=true)
  (hx:od L x=some (.slice (some ⟨b,o,none⟩) dl dc)) (hy:od L y=some (.slice (some a) sl sc)) (hk:nth B k=some (acc e 1 (.slice (some ⟨b,0,none⟩) m c) q cells)) (hn:cs.length=Nat.min sl dl)
  (hsrc:∀j v,cs[j]? = some v→w.cell? (a.add j)=some v) (h1:∀v ∈ cs,v.oneCell'=true) (hlen:o+cs.length≤c)
  (next:∀w',Hp w0 G0 S w' G (setN B k (acc e 1 (.slice (some ⟨b,0,none⟩) m c) q (setCs cells o cs)))→R P n ops Q rest ((d,.int .i64 cs.length)::L) ds w'):R P n ops Q (⟨some d,.call ⟨.builtin .copy,#[x,y],#[t,t]⟩,ty,ps,af,none⟩::rest) L ds w:=by
 obtain⟨H',g1,g2⟩:=H.accSet hk (vs:=cs) hlen
 have hr:=run_copy_cells (P:=P) w t t ty e b o dl dc a sl sc cs hU (by rw[info_of hI];simp[hs]) hn hsrc g1 g2 h1
 exact R_run hd (fun f hf=>by simp[execOp,resolve,invoke,builtin,hf.eval hx,hf.eval hy,hr,goInt]) (next _ H')
theorem o_clear1 (k:Nat)(H:Hp w0 G0 S w G B){t e:TypeId}{z:Value}{x:Operand}{b o m c q dc:Nat}{cells:List Value}(hU:P.underlying t=some (.slice e))(hz:∀w,(zeroValue e).run P w= .ok z w)(hz1:z.cells= #[z])(h1:z.oneCell'=true)
  (hx:od L x=some (.slice (some ⟨b,o,none⟩) 1 dc)) (hk:nth B k=some (acc e 1 (.slice (some ⟨b,0,none⟩) m c) q cells)) (ho:o+1≤c) (hq:cells.length≤o)
  (next:∀w',Hp w0 G0 S w' G B→R P n ops Q rest L ds w'):R P n ops Q (⟨none,.call ⟨.builtin .clear,#[x],#[t]⟩,ty,ps,af,none⟩::rest) L ds w:=by
 obtain⟨H',g1,g2⟩:=H.accSet hk (vs:=[z]) (o:=o) ho
 have hr:=Lib.run_clear_slice (P:=P) w t e ty z hU hz hz1 h1 b o 1 dc (by decide) (by simpa using g1) (by simpa using g2)
 rw[setCs_past _ _ _ hq,show setN B k (acc e 1 (.slice (some ⟨b,0,none⟩) m c) q cells)=B from by obtain⟨B1,B2,h1,h2,_⟩:=fps_split hk;rw[h2,h1]]at H'
 intro a ha
 refine wpList_plain rfl fun K hK=>?_
 have hr2:(execOp a.eval ⟨none,.call ⟨.builtin .clear,#[x],#[t]⟩,ty,ps,af,none⟩).run P w= .ok (.value (.tuple #[])) (w.setCells b o (List.replicate 1 z)):=by simp[execOp,resolve,invoke,builtin,ha.eval hx,hr]
 unfold Oper.wp
 rw[hr2]
 exact hK _ _ (next _ H' _ (ha.put_none _))
theorem o_appmk (k:Nat)(H:Hp w0 G0 S w G B){d:Nat}{t tn e:TypeId}{inf:TypeInfo}{bytes:Nat}{z:Value}{x y:Operand}{b i m c q:Nat}{cells:List Value}{p:Int}(r:Nat)(hU:P.underlying t=some (.slice e))(hN:P.underlying tn=some (.int .i64))(hI:∀w,(typeInfo e).run P w= .ok inf w)(hz:inf.zero=some z)(hz1:z.cells= #[z])(hs:inf.size=1)(hby:inf.bytes=bytes)(hb8:Nat.ble bytes 64=true)(hd:Nat.blt d n=true)
  (hx:od L x=some (.slice (some ⟨b,0,none⟩) i c)) (hy:od L y=some (.int .i64 p)) (hp:p=(r:Int)) (hk:nth B k=some (acc e 1 (.slice (some ⟨b,0,none⟩) m c) q cells)) (hi:i≤m) (h0:0<r) (hgr:c<i+r) (hsm:i+r≤2199023255552)
  (next:∀nb c' w',Hp w0 G0 S w' G (acc e 1 (.slice (some ⟨nb,0,none⟩) (i+r) c') (i+r) (cells.take i++List.replicate r z)::B)→nb≠b→i+r≤c'→R P n ops Q rest ((d,.slice (some ⟨nb,0,none⟩) (i+r) c')::L) ds w') :
  R P n ops Q (⟨some d,.call ⟨.builtin .append,#[x,y],#[t,tn]⟩,ty,ps,af,none⟩::rest) L ds w:=by
 subst hby hp
 obtain⟨g0,g⟩:=(H.own _ (nth_mem hk)).1
 rcases g with ⟨g,_⟩|⟨b',cap,C,g1,g2,g3,g4,g5,g6⟩
 ·cases g
 simp only[Value.slice.injEq,Option.some.injEq,Addr.mk.injEq]at g1
 obtain⟨⟨rfl,_⟩,rfl,rfl⟩:=g1
 simp only[Nat.mul_one]at g0 g5 g6
 have hn:¬(r=0):=by omega
 have hw:IntKind.i64.wrap (r:Int)=r:=wrap_i64 ⟨by omega,by omega⟩
 have hb8':inf.bytes≤64:=by simpa using hb8
 have hbb:(i+r)*inf.bytes≤140737488355328:=by
  calc (i + r) * inf.bytes ≤ 2199023255552 * 64 := Nat.mul_le_mul hsm hb8'
   _≤_:=by decide
 have h63':¬(9223372036854775807<(i:Int)+(r:Int)):=by omega
 have h48':¬(281474976710656<Builtin.nextslicecap (i+r) c*inf.bytes):=by have:=growslice_fits hgr hbb;omega
 have h48i:¬(281474976710656<(r:Int)*(inf.bytes:Int)):=by
  rw[←Int.natCast_mul]
  have:r*inf.bytes≤(i+r)*inf.bytes:=Nat.mul_le_mul_right _ (by omega)
  omega
 have hneg:¬((r:Int)<0):=by omega
 have hnr:¬(i+r≤c):=by omega
 have hold:(Builtin.firstCells 1 i (.slice (some ⟨b,0,none⟩) i c)).run P w.drew= .ok (cells.take i).toArray w.drew:=by
  refine run_firstCells_some w.drew 1 i ⟨b,0,none⟩ i c (cells.take i) (by simp;omega) (fun j v hj=>?_)
  rw[Addr.add_lit,Nat.zero_add]
  rw[List.getElem?_take]at hj
  split at hj
  ·exact acc_cell H hk hj
  ·cases hj
 have hrun:(Builtin.append_ #[t,tn] ty #[.slice (some ⟨b,0,none⟩) i c,.int .i64 (r:Int)]).run P w= .ok (.slice (some ⟨w.heap.size,0,none⟩) (i+r) (grownCap w (i+r) c e)) (w.drew.alloc (.cells ((cells.take i).toArray++(Builtin.zeroCells z.cells r++Builtin.zeroCells z.cells (grownCap w (i+r) c e-(i+r)))) e)):=by
  simp[Builtin.append_,run_underlying hU,run_underlying hN,Go.sizeOf,typeInfo,zeroValue,info_of hI,hz,hs,asInt,asIntOf,hw,hn,hneg,h63',h48',h48i,hnr,Question.forced,hold,newRow,grownCap]
 have hge:=grownCap_ge w (i+r) c e
 have hcm:grownCap w (i+r) c e≤maxLen:=grownCap_le_maxLen w (i+r) c e (by simp only[maxLen];omega)
 have E:=Ext.drewAlloc w (.cells ((cells.take i).toArray++(Builtin.zeroCells z.cells r++Builtin.zeroCells z.cells (grownCap w (i+r) c e-(i+r)))) e)
 have hzr:(Builtin.zeroCells z.cells r).toList=List.replicate r z:=by
  rw[hz1]
  simp[Builtin.zeroCells]
  apply List.ext_getElem
  ·simp
  ·intro i h1 h2;simp[Nat.mod_one]
 have hlt:b<w.heap.size:=(Array.getElem?_eq_some_iff.1 g2).1
 generalize hW:w.drew.alloc _=W at hrun E
 refine R_run hd (w':=W) (fun f hf=>by simp[execOp,resolve,invoke,builtin,hf.eval hx,hf.eval hy,hrun]) (next w.heap.size _ _ ?_ (by omega) hge)
 have H0:=H.addNil e 1
 have H1:=H0.upd (k:=0) rfl E.os E.tape E.output E.size (fun b hb _=>E.block b hb) (acc e 1 (.slice (some ⟨w.heap.size,0,none⟩) (i+r) (grownCap w (i+r) c e)) (i+r) (cells.take i++List.replicate r z)) ⟨by simp;omega,.inr ⟨w.heap.size,_,((cells.take i).toArray++(Builtin.zeroCells z.cells r++Builtin.zeroCells z.cells (grownCap w (i+r) c e-(i+r)))),rfl,?_,hge,hcm,?_,?_⟩⟩ (fun b hb=>by simp[acc_fp]at hb;right;omega) (by simp[acc_fp])
 ·simpa [setN] using H1
 ·rw[←hW];exact alloc_new w.drew _
 ·simp only[Array.size_append,List.size_toArray,Fw.zeroCells_size,hz1]
  simp
  omega
 ·simp only[Array.toList_append,List.append_assoc,hzr]
  rw[←List.append_assoc]
  have:(cells.take i++List.replicate r z).length=(i+r)*1:=by simp;omega
  rw[←this]
  exact List.take_left
theorem Hp.accMore (H:Hp w0 G0 S w G B){k n c b:Nat}{e:TypeId}{cells:List Value}(hk:nth B k=some (acc e 1 (.slice (some ⟨b,0,none⟩) n c) n cells))(hc:n+1≤c):∃z,Hp w0 G0 S w G (setN B k (acc e 1 (.slice (some ⟨b,0,none⟩) (n+1) c) (n+1) (cells++[z]))):=by
 obtain⟨h0,h⟩:=(H.own _ (nth_mem hk)).1
 rcases h with ⟨h,_⟩|⟨b',cap,C,g1,g2,g3,g4,g5,g6⟩
 ·cases h
 simp only[Value.slice.injEq,Option.some.injEq,Addr.mk.injEq]at g1
 obtain⟨⟨rfl,_⟩,_,rfl⟩:=g1
 simp only[Nat.mul_one]at h0 g5 g6
 have hlt:n<C.toList.length:=by simp[g5];omega
 refine⟨C.toList[n],H.upd hk rfl rfl rfl (Nat.le_refl _) (fun _ _ _=>rfl) _ ⟨by simp[h0],.inr ⟨b,c,C,rfl,g2,hc,g4,by simpa using g5,?_⟩⟩ (fun c hc=>by simp[acc_fp]at hc;left;simp[acc_fp,hc]) (by simp[acc_fp])⟩
 rw[Nat.mul_one,List.take_succ,g6,List.getElem?_eq_getElem hlt]
 rfl
theorem o_overlaps (k k2 : Nat) (H : Hp w0 G0 S w G B) {d : Nat} {f : FuncId} {t tb e : TypeId} {xs : List Operand} {ts : Array TypeId} {b o m c q lb cb vb lv cv : Nat} {cells : List Value} {v : List Value} {ev : TypeId} (hf : ∀ args w, (callFunc f args).run P w = ((Extern.SlicesOverlaps.overlaps #[t, t] #[tb] args).run P w).andThen fun v w' => .ok (.value v) w')
  (hU:P.underlying t=some (.slice e)) (hS:∀w,(Go.sizeOf e).run P w= .ok 1 w) (hd:Nat.blt d n=true) (hx:ods L xs=some [.slice (some ⟨vb,0,none⟩) lv cv,.slice (some ⟨b,o,none⟩) lb cb])
  (hk:nth B k=some (acc e 1 (.slice (some ⟨b,0,none⟩) m c) q cells)) (hk2:nth B k2=some (blk vb (cl v ev))) (hne:vb≠b) (hc:0<c) (next:R P n ops Q rest ((d,.bool false)::L) ds w) :
  R P n ops Q (⟨some d,.call ⟨.value (.func f),xs.toArray,ts⟩,ty,ps,af,none⟩::rest) L ds w:=by
 have hb2:=(H.own _ (nth_mem hk2)).1
 obtain⟨g0,g⟩:=(H.own _ (nth_mem hk)).1
 rcases g with ⟨g,_⟩|⟨b',cap,C,g1,g2,g3,g4,g5,g6⟩
 ·cases g
 simp only[Value.slice.injEq,Option.some.injEq,Addr.mk.injEq]at g1
 obtain⟨⟨rfl,_⟩,_,rfl⟩:=g1
 have hb2':w.heap[vb]? = some (cl v ev):=hb2
 have g2':w.heap[b]? = some (.cells C e (0,0)):=g2
 have hr:=Lib.run_overlaps_apart (P:=P) w t tb e hU 1 hS ⟨vb,0,none⟩ ⟨b,o,none⟩ lv cv lb cb hne ev e v.length C.size (by simp[World.shape?,hb2']) (by simp[World.shape?,g2']) (by omega) (by simp[World.frozen?,hb2']) (by simp[World.frozen?,hb2'])
 refine R_run hd (fun a ha=>?_) next
 have e:=ha.evals xs _ hx
 simp[execOp,resolve,invoke,Act.eval,Deferred.ofValue,e,hf,hr,Result.andThen]
end ops
section
variable {w0 w:World} {G0 G:PH} {S:List Nat} {B:List Res} {NT PT:TypeId}
theorem nd_front {F:Fr}(H:Hp w0 G0 S w G (frag F::B)):(dm F).Nodup:=(List.nodup_append.1 (show(dm F++fps B).Nodup from H.nd)).1
theorem fh_perm {F F':Fr}(hp:F.Perm F')(hn:(dm F).Nodup)(b:Nat):fh F b=fh F' b:=by
 have key:∀{F:Fr} {b:Nat} {o:Obj},(dm F).Nodup→(fh F b=some o↔(b,o) ∈ F):=by
  intro F
  induction F with
  | nil=>intro b o _;simp[fh]
  | cons x r ih =>
   obtain⟨c,p⟩:=x
   intro b o hn
   have hn':c ∉ dm r∧(dm r).Nodup:=by simpa [dm] using hn
   by_cases e:c=b
   ·subst e
    simp only[fh,if_true,Option.some.injEq,List.mem_cons,Prod.mk.injEq,true_and]
    constructor
    ·rintro rfl;exact .inl rfl
    ·rintro(rfl|h)
     ·rfl
     ·exact absurd (List.mem_map_of_mem (f:=Prod.fst) h) hn'.1
   ·have e':¬b=c:=fun h=>e h.symm
    simp only[fh,e,if_false,List.mem_cons,Prod.mk.injEq,e',false_and,false_or]
    exact ih hn'.2
 have hn':(dm F').Nodup:=(hp.map Prod.fst).nodup_iff.1 hn
 cases h:fh F' b with
 | some o=>exact(key hn).2 (hp.mem_iff.2 ((key hn').1 h))
 | none =>
  cases h2:fh F b with
  | none=>rfl
  | some o=>rw[(key hn').2 (hp.mem_iff.1 ((key hn).1 h2))]at h;cases h
theorem Hp.permF {F F':Fr}(H:Hp w0 G0 S w G (frag F::B))(hp:F.Perm F'):Hp w0 G0 S w G (frag F'::B):=by
 have hn:=nd_front H
 have H':=H.upd (k:=0) rfl rfl rfl rfl (Nat.le_refl _) (fun _ _ _=>rfl) (frag F') (fun b o hb=>(H.own (frag F) (by simp)).1 b o (by rw[fh_perm hp hn];exact hb)) (fun b hb=> .inl (((hp.map Prod.fst).mem_iff).2 hb)) ((hp.map Prod.fst).nodup_iff.1 hn)
 simpa [setN] using H'
theorem Hp.outF {b:Nat}{o:Obj}{F:Fr}(H:Hp w0 G0 S w G (frag ((b,o)::F)::B)):Hp w0 G0 S w G (blk b o::frag F::B):=by
 have H1:=Hp.splitF (F:=[(b,o)]) H
 have H2:=H1.upd (k:=0) rfl rfl rfl rfl (Nat.le_refl _) (fun _ _ _=>rfl) (blk b o) ((H1.own (frag [(b,o)]) (by simp)).1 b o (by simp[fh])) (fun c hc=>by simp[blk]at hc;left;simp[frag,dm,hc]) (by simp[blk])
 simpa [setN] using H2
theorem Hp.inF {b:Nat}{o:Obj}{F:Fr}(H:Hp w0 G0 S w G (blk b o::frag F::B)):Hp w0 G0 S w G (frag ((b,o)::F)::B):=by
 have H2 := H.upd (k := 0) rfl rfl rfl rfl (Nat.le_refl _) (fun _ _ _ => rfl) (frag [(b, o)]) (fun c o' hc => by
  have hb:=(H.own (blk b o) (by simp)).1
  simp only[fh]at hc
  split at hc
  ·rename_i e;subst e;cases hc;exact hb
  ·cases hc) (fun c hc=>by simp[frag,dm]at hc;left;simp[blk,hc]) (by simp[frag,dm])
 simp only[setN]at H2
 exact Hp.mergeF (F:=[(b,o)]) H2
abbrev ptrs (ks:List Nd):List Value:=ks.map (fun k=>ptr k.b)
theorem Hp.outK {ks:List Nd}{kv:Value}{Fk Fs R:Fr}(H:Hp w0 G0 S w G (frag (Fk++R)::B))(h:KArr PT ks kv Fk Fs)(hl:ks.length≤1099511627776):Hp w0 G0 S w G (acc PT 1 kv ks.length (ptrs ks)::frag (Fs++R)::B):=by
 rcases h with ⟨rfl,rfl,rfl⟩|⟨kb,cap,C,rfl,h1,h2,h3,h4,rfl⟩
 ·exact H.addNil PT 1
 ·have H1:=Hp.outF H
  have H2:=H1.upd (k:=0) rfl rfl rfl rfl (Nat.le_refl _) (fun _ _ _=>rfl) (acc PT 1 (.slice (some ⟨kb,0,none⟩) ks.length cap) ks.length (ptrs ks)) ⟨by simp,.inr ⟨kb,cap,C,rfl,(H1.own (blk kb _) (by simp)).1,h1,h2,by simpa using h3,by simpa using h4⟩⟩ (fun c hc=>by simp[acc_fp]at hc;left;simp[blk,hc]) (by simp[acc_fp])
  simpa [setN] using H2
theorem Hp.inK {ks:List Nd}{kv:Value}{Fs R:Fr}(H:Hp w0 G0 S w G (acc PT 1 kv ks.length (ptrs ks)::frag (Fs++R)::B)):∃Fk,Hp w0 G0 S w G (frag (Fk++R)::B)∧KArr PT ks kv Fk Fs:=by
 obtain⟨h0,h⟩:=(H.own (acc PT 1 kv ks.length (ptrs ks)) (by simp)).1
 rcases h with ⟨rfl,h⟩|⟨kb,cap,C,rfl,g2,g3,g4,g5,g6⟩
 ·exact⟨Fs,by simpa [delN] using H.del (k:=0) rfl,.inl ⟨rfl,List.eq_nil_of_length_eq_zero h,rfl⟩⟩
 ·simp only[Nat.mul_one]at g5 g6
  have H2:=H.upd (k:=0) rfl rfl rfl rfl (Nat.le_refl _) (fun _ _ _=>rfl) (blk kb (.cells C PT (0,0))) g2 (fun c hc=>by simp[blk]at hc;left;simp[acc_fp,hc]) (by simp[blk])
  simp only[setN]at H2
  exact⟨(kb,.cells C PT (0,0))::Fs,H2.inF,.inr ⟨kb,cap,C,rfl,g3,g4,g5,g6,rfl⟩⟩
abbrev ncl (d:Nd) (a:Option Addr) (m c:Nat) (kv:Value):List Value:=[str d.name,.bool d.dir,.slice a m c,kv]
theorem Hp.openNode {F:Fr}{t d:Nd}{ns:List Bs}(H:Hp w0 G0 S w G (frag F::B))(h:NdO NT PT G t F)(ha:t.at_ ns=some d) :
  ∃a m c kv Fs R,Hp w0 G0 S w G (blk d.b (cl (ncl d a m c kv) NT)::acc PT 1 kv d.kids.length (ptrs d.kids)::frag (Fs++R)::B)∧RdI G (.slice a m c) d.ids∧NdsO NT PT G d.kids Fs∧d.name.length≤16777216∧d.kids.length≤1099511627776∧(∀b,b ∈ fps [frag F]→b=d.b∨b ∈ (acc PT 1 kv d.kids.length (ptrs d.kids)).fp∨b ∈ dm (Fs++R)) ∧
   ∀{w0':World} {G0':PH} {S':List Nat} {w':World} {G':PH} {B':List Res} {ids':List Int} {kids':List Nd} {a':Option Addr} {m' c':Nat} {kv':Value} {Fs' X:Fr},Hp w0' G0' S' w' G' (blk d.b (cl (ncl d a' m' c' kv') NT)::acc PT 1 kv' kids'.length (ptrs kids')::frag X::B')→X.Perm (Fs'++R)→PLe G G'→RdI G' (.slice a' m' c') ids'→NdsO NT PT G' kids' Fs'→kids'.length≤1099511627776 →
    ∃F',Hp w0' G0' S' w' G' (frag F'::B')∧NdO NT PT G' (t.upd ns (fun _=> .mk d.b d.name d.dir ids' kids')) F'∧(t.upd ns (fun _=> .mk d.b d.name d.dir ids' kids')).b=t.b:=by
 obtain⟨Fd,R,p1,p2,p3⟩:=NdO.focus ns h ha
 obtain⟨b,nm,dr,ids,ks⟩:=d
 simp only[NdO]at p2
 obtain⟨h1,h0,a,m,c,kv,Fk,Fs,rfl,h3,h4,h5⟩:=p2
 have H1:=(H.permF p1).outF
 have H2:Hp w0 G0 S w G (frag (Fk++R)::blk b (cl [str nm,.bool dr,.slice a m c,kv] NT)::B):=H1.swap0
 have H3:=Hp.outK H2 h4 h0
 have H4:Hp w0 G0 S w G (blk b (cl [str nm,.bool dr,.slice a m c,kv] NT)::acc PT 1 kv ks.length (ptrs ks)::frag (Fs++R)::B):=by
  have:=H3.toFront (k:=2) rfl
  simpa [delN] using this
 refine⟨a,m,c,kv,Fs,R,H4,h3,h5,h1,h0,?_,?_⟩
 ·intro x hx
  have hx1:x ∈ dm F:=by simpa [fps,frag] using hx
  have hx2:=((p1.map Prod.fst).mem_iff).1 hx1
  have hx3:x=b∨x ∈ dm Fk∨x ∈ dm R:=by simpa [dm] using hx2
  rcases hx3 with h|h|h
  ·exact .inl h
  ·rcases h4 with ⟨rfl,rfl,rfl⟩|⟨kb,cap,C,rfl,_,_,_,_,rfl⟩
   ·exact .inr (.inr (by rw[dm_append];exact List.mem_append_left _ h))
   ·have h2:x=kb∨x ∈ dm Fs:=by simpa [dm] using h
    rcases h2 with h2|h2
    ·exact .inr (.inl (by simp[acc_fp,h2]))
    ·exact .inr (.inr (by rw[dm_append];exact List.mem_append_left _ h2))
  ·exact .inr (.inr (by rw[dm_append];exact List.mem_append_right _ h))
 intro w0' G0' S' w' G' B' ids' kids' a' m' c' kv' Fs' X K hX hle hi hk hl
 have K1:Hp w0' G0' S' w' G' (acc PT 1 kv' kids'.length (ptrs kids')::frag X::blk b (cl [str nm,.bool dr,.slice a' m' c',kv'] NT)::B'):=by
  have:=(K.toFront (k:=1) rfl).toFront (k:=2) rfl
  have h9:=this.toFront (k:=1) rfl
  simp only[delN]at h9
  exact h9
 have K2:Hp w0' G0' S' w' G' (acc PT 1 kv' kids'.length (ptrs kids')::frag (Fs'++R)::blk b (cl [str nm,.bool dr,.slice a' m' c',kv'] NT)::B'):=by
  have:=(K1.swap0).permF hX
  exact this.swap0
 obtain⟨Fk',K3,hk'⟩:=K2.inK
 have K4:=(K3.swap0).inF
 obtain⟨F',q1,q2,q3⟩:=p3 G' (.mk b nm dr ids' kids') ((b,cl [str nm,.bool dr,.slice a' m' c',kv'] NT)::Fk') hle (by
  simp only[NdO]
  exact⟨h1,hl,a',m',c',kv',Fk',Fs',rfl,hi,hk',hk⟩) rfl
 exact⟨F',K4.permF (by simpa using q1.symm),q2,q3⟩
theorem NdsO.app {G:PH}:∀{l m:List Nd} {F:Fr},NdsO NT PT G (l++m) F↔∃F1 F2,F=F1++F2∧NdsO NT PT G l F1∧NdsO NT PT G m F2
 | [], m, F => by
  simp only[List.nil_append,NdsO]
  exact⟨fun h=>⟨[],F,rfl,rfl,h⟩,fun⟨F1,F2,h1,h2,h3⟩=>by subst h2;simpa [h1] using h3⟩
 | k :: r, m, F => by
  simp only[List.cons_append,NdsO]
  constructor
  ·rintro⟨F1,F2,rfl,h1,h2⟩
   obtain⟨F3,F4,rfl,h3,h4⟩:=NdsO.app.1 h2
   exact⟨F1++F3,F4,by simp,⟨F1,F3,rfl,h1,h3⟩,h4⟩
  ·rintro⟨_,F2,rfl,⟨F1,F3,rfl,h1,h3⟩,h4⟩
   exact⟨F1,F3++F2,by simp,h1,NdsO.app.2 ⟨F3,F2,rfl,h3,h4⟩⟩
theorem NdsO.ins {G:PH}{l:List Nd}{F Fk:Fr}{k:Nd}(i:Nat)(h:NdsO NT PT G l F)(hk:NdO NT PT G k Fk):∃F',F'.Perm (Fk++F)∧NdsO NT PT G (l.take i++k::l.drop i) F':=by
 rw[←List.take_append_drop i l]at h
 obtain⟨F1,F2,rfl,h1,h2⟩:=NdsO.app.1 h
 refine⟨F1++(Fk++F2),?_,NdsO.app.2 ⟨F1,Fk++F2,rfl,h1,by simp only[NdsO];exact⟨Fk,F2,rfl,hk,h2⟩⟩⟩
 rw[←List.append_assoc,←List.append_assoc]
 exact List.Perm.append_right F2 List.perm_append_comm
theorem NdsO.del {G:PH}{l:List Nd}{F:Fr}{k:Nd}{i:Nat}(h:NdsO NT PT G l F)(hi:l[i]? = some k):∃Fk F',F.Perm (Fk++F')∧NdO NT PT G k Fk∧NdsO NT PT G (l.take i++l.drop (i+1)) F':=by
 obtain⟨hlt,rfl⟩:=List.getElem?_eq_some_iff.1 hi
 have e:l=l.take i++(l[i]::l.drop (i+1)):=by rw[←List.drop_eq_getElem_cons hlt,List.take_append_drop]
 rw[e]at h
 obtain⟨F1,F2,rfl,h1,h2⟩:=NdsO.app.1 h
 simp only[NdsO]at h2
 obtain⟨Fk,F3,rfl,h3,h4⟩:=h2
 refine⟨Fk,F1++F3,?_,h3,NdsO.app.2 ⟨F1,F3,rfl,h1,h4⟩⟩
 rw[←List.append_assoc,←List.append_assoc]
 exact List.Perm.append_right F3 List.perm_append_comm
theorem Hp.openKid {l:List Nd}{Fs R:Fr}{k:Nd}{i:Nat}(H:Hp w0 G0 S w G (frag (Fs++R)::B))(h:NdsO NT PT G l Fs)(hi:l[i]? = some k) :
  ∃a m c a' c' Fk F',Hp w0 G0 S w G (blk k.b (cl (ncl k a m c (.slice a' k.kids.length c')) NT)::frag (Fk++(F'++R))::B)∧RdI G (.slice a m c) k.ids∧NdO NT PT G k ((k.b,cl (ncl k a m c (.slice a' k.kids.length c')) NT)::Fk)∧NdsO NT PT G (l.take i++l.drop (i+1)) F'∧Fs.Perm (((k.b,cl (ncl k a m c (.slice a' k.kids.length c')) NT)::Fk)++F'):=by
 obtain⟨Fk,F',p1,p2,p3⟩:=h.del hi
 obtain⟨b,nm,dr,ids,ks⟩:=k
 have p2':=p2
 simp only[NdO]at p2
 obtain⟨h1,h0,a,m,c,kv,Fk0,Fs0,rfl,h3,h4,h5⟩:=p2
 obtain⟨a',c',rfl⟩:∃a' c',kv= .slice a' ks.length c':=by
  rcases h4 with ⟨rfl,rfl,_⟩|⟨kb,cap,C,rfl,_⟩
  ·exact⟨none,0,rfl⟩
  ·exact⟨_,_,rfl⟩
 have H1:=H.permF (F':=(b,cl [str nm,.bool dr,.slice a m c,.slice a' ks.length c'] NT)::(Fk0++(F'++R))) (by simpa using List.Perm.append_right R p1)
 exact⟨a,m,c,a',c',Fk0,F',H1.outF,h3,p2',p3,p1⟩
theorem NdO.new {G:PH}{b:Nat}{nm:Bs}{dr:Bool}{a:Option Addr}{m c:Nat}{ids:List Int}(hn:nm.length≤16777216)(hi:RdI G (.slice a m c) ids):NdO NT PT G (.mk b nm dr ids []) [(b,cl [str nm,.bool dr,.slice a m c,.slice none 0 0] NT)]:=by
 simp only[NdO]
 exact⟨hn,by simp,a,m,c,_,[],[],rfl,hi,.inl ⟨rfl,rfl,rfl⟩,by simp[NdsO]⟩
theorem Hp.lendN (H:Hp w0 G0 S w G B){ks:List Nat}{k:Nat}{F:Fr}{t:Nd}(hk:nth B k=some (frag F))(hm:ks.contains k=true)(h:NdO NT PT G t F):RdN (PPlus G w (fpsAt B ks)) t:=by
 have hp:=H.lendPredL hk hm
 have hn:(dm F).Nodup:=by
  have H1:=H.toFront hk
  exact nd_front H1
 exact NdO.rd (PPlus.le _ _ _) h hp hn
end
theorem get_setCs : ∀ (vs l : List Value) (o j : Nat), (setCs l o vs)[j]? = if o ≤ j ∧ j < o + vs.length ∧ j < l.length then vs[j - o]? else l[j]?
 | [],l,o,j=>by simp only[setCs,List.length_nil,Nat.add_zero];rw[if_neg (by omega)]
 | v :: r, l, o, j => by
  simp only[setCs,get_setCs r,length_setN,List.length_cons]
  rw[setN_eq,List.getElem?_set]
  by_cases h:o=j
  ·subst h
   rw[if_neg (by omega)]
   by_cases h2:o<l.length
   ·simp[h2]
   ·simp[h2]
  ·by_cases h2:o+1≤j∧j<o+1+r.length∧j<l.length
   ·rw[if_pos h2,if_pos (by omega)]
    rw[show j-o=(j-(o+1))+1 by omega,List.getElem?_cons_succ]
   ·rw[if_neg h2,if_neg h,if_neg (by omega)]
theorem get_ins {c : List Value} {x : Value} {i : Nat} (hi : i ≤ c.length) (j : Nat) : (c.take i ++ x :: c.drop i)[j]? = if j < i then c[j]? else if j = i then some x else c[j - 1]? := by
 have hl:(c.take i).length=i:=by simp;omega
 by_cases h:j<i
 ·rw[if_pos h,List.getElem?_append_left (by omega),List.getElem?_take,if_pos h]
 ·rw[if_neg h,List.getElem?_append_right (by omega),hl]
  by_cases h2:j=i
  ·subst h2;simp
  ·rw[if_neg h2,show j-i=(j-i-1)+1 by omega,List.getElem?_cons_succ,List.getElem?_drop]
   congr 1;omega
theorem insC {c:List Value}{x z:Value}{i:Nat}(hi:i≤c.length):setCs (setCs (c++[z]) (i+1) (c.drop i)) i [x]=c.take i++x::c.drop i:=by
 apply List.ext_getElem?
 intro j
 rw[get_ins hi]
 simp only[get_setCs,length_setCs,List.length_append,List.length_cons,List.length_nil,List.length_drop]
 rcases Nat.lt_trichotomy j i with h|h|h
 ·rw[if_neg (by omega),if_neg (by omega),List.getElem?_append_left (by omega),if_pos h]
 ·subst h
  rw[if_pos (by omega),if_neg (by omega),if_pos rfl]
  simp
 ·rw[if_neg (by omega)]
  by_cases h2:j<c.length+1
  ·rw[if_pos (by omega),if_neg (by omega),if_neg (by omega),List.getElem?_drop]
   congr 1;omega
  ·rw[if_neg (by omega),if_neg (by omega),if_neg (by omega),List.getElem?_eq_none (by simp;omega),List.getElem?_eq_none (by omega)]
theorem insC2 {c:List Value}{x z:Value}{i r:Nat}(hi:i≤c.length)(hr:i+r=c.length+1):setCs (setCs (c.take i++List.replicate r z) i [x]) (i+1) (c.drop i)=c.take i++x::c.drop i:=by
 apply List.ext_getElem?
 intro j
 have hl:(c.take i).length=i:=by simp;omega
 rw[get_ins hi]
 simp only[get_setCs,length_setCs,List.length_append,List.length_cons,List.length_nil,List.length_drop,hl,List.length_replicate]
 rcases Nat.lt_trichotomy j i with h|h|h
 ·rw[if_neg (by omega),if_neg (by omega),List.getElem?_append_left (by omega),if_pos h,List.getElem?_take,if_pos h]
 ·subst h
  rw[if_neg (by omega),if_pos (by omega),if_neg (by omega),if_pos rfl]
  simp
 ·by_cases h2:j<c.length+1
  ·rw[if_pos (by omega),if_neg (by omega),if_neg (by omega),List.getElem?_drop]
   congr 1;omega
  ·rw[if_neg (by omega),if_neg (by omega),if_neg (by omega),if_neg (by omega),List.getElem?_eq_none (by simp;omega),List.getElem?_eq_none (by omega)]
theorem ptrs_ins (ks:List Nd)(k:Nd)(i:Nat):(ptrs ks).take i++ptr k.b::(ptrs ks).drop i=ptrs (ks.take i++k::ks.drop i):=by simp[ptrs,List.map_take,List.map_drop]
theorem ptrs_del (ks:List Nd)(i:Nat):(ptrs ks).take i++(ptrs ks).drop (i+1)=ptrs (ks.take i++ks.drop (i+1)):=by simp[ptrs,List.map_take,List.map_drop]
theorem ptrs_one {ks:List Nd}:∀v,v ∈ ptrs ks→v.oneCell'=true:=by
 intro v hv
 obtain⟨k,_,rfl⟩:=List.mem_map.1 hv
 rfl
theorem chkK {G:PH}:∀ks:List Nd,Chk kdE 1 G (ptrs ks) ks
 | []=>Chk.nil
 | k::r=>(Chk.one (E:=kdE) (sz:=1) (G:=G) (x:=k) rfl rfl).app (chkK r)
section ops
variable {P:Program} {n:Nat} {ops:Array Oper} {Q:Post} {rest:List Oper} {L:Slots} {ds:List Deferred} {w w0:World} {G0:PH} {S:List Nat} {G:PH} {B:List Res}
variable {ty:TypeId} {ps:String} {af:Array Edge}
theorem o_slice_from1 {d:Nat}{t e:TypeId}{x y:Operand}{b m c i:Nat}{p:Int}(hU:P.underlying t=some (.slice e))(hS:∀w,(Go.sizeOf e).run P w= .ok 1 w)(hd:Nat.blt d n=true)(hx:od L x=some (.slice (some ⟨b,0,none⟩) m c))
  (hy:od L y=some (.int .i64 p)) (hp:p=(i:Int)) (hi:i≤m) (hc:i<c) (next:R P n ops Q rest ((d,.slice (some ⟨b,i,none⟩) (m-i) (c-i))::L) ds w) :
  R P n ops Q (⟨some d,.slice t x (some y) none none,ty,ps,af,none⟩::rest) L ds w:=by
 refine o_slice_from (i:=i) hU hS hd hx hy hp hi ?_
 rw[if_neg (by omega)]
 simpa [Addr.add_lit] using next
theorem v_slice_from1 {d:Nat}{t e:TypeId}{x y:Operand}{b m c i:Nat}{p:Int}(hU:P.underlying t=some (.slice e))(hS:∀w,(Go.sizeOf e).run P w= .ok 1 w)(hx:od L x=some (.slice (some ⟨b,0,none⟩) m c))
  (hy:od L y=some (.int .i64 p)) (hp:p=(i:Int)) (hi:i≤m) (hc:i<c):VAL P n L ds w (⟨some d,.slice t x (some y) none none,ty,ps,af,none⟩) (.slice (some ⟨b,i,none⟩) (m-i) (c-i)):=by
 have h:=v_slice_from (P:=P) (n:=n) (ds:=ds) (w:=w) (d:=d) (ty:=ty) (ps:=ps) (af:=af) (i:=i) hU hS hx hy hp hi
 rw[if_neg (by omega)]at h
 simpa [Addr.add_lit] using h
theorem o_slice3 {d:Nat}{t e:TypeId}{x y z u:Operand}{a:Option Addr}{m c sz i j k:Nat}{p q r:Int}(hU:P.underlying t=some (.slice e))(hS:∀w,(Go.sizeOf e).run P w= .ok sz w)(hd:Nat.blt d n=true)(hx:od L x=some (.slice a m c))
  (hy:od L y=some (.int .i64 p)) (hz:od L z=some (.int .i64 q)) (hu:od L u=some (.int .i64 r)) (hp:p=(i:Int)) (hq:q=(j:Int)) (hr:r=(k:Int)) (h1:i≤j) (h2:j≤k) (h3:k≤c)
  (next:R P n ops Q rest ((d,.slice (if k=i then a else a.map (·.add (i*sz))) (j-i) (k-i))::L) ds w):R P n ops Q (⟨some d,.slice t x (some y) (some z) (some u),ty,ps,af,none⟩::rest) L ds w :=
 R_run hd (fun b hb => by
  subst hp hq hr
  simp[execOp,hb.eval hx,hb.eval hy,hb.eval hz,hb.eval hu,Instr.sliceAt,Instr.slice,run_underlying hU,Instr.sliceBounds,Instr.sliceBound,asIntOf,hS,h1,h2,h3]) next
theorem o_slice_mid1 {d:Nat}{t e:TypeId}{x y z:Operand}{b m c i j:Nat}{p q:Int}(hU:P.underlying t=some (.slice e))(hS:∀w,(Go.sizeOf e).run P w= .ok 1 w)(hd:Nat.blt d n=true)(hx:od L x=some (.slice (some ⟨b,0,none⟩) m c))
  (hy:od L y=some (.int .i64 p)) (hz:od L z=some (.int .i64 q)) (hp:p=(i:Int)) (hq:q=(j:Int)) (h1:i≤j) (h2:j≤c) (hc:i<c)
  (next:R P n ops Q rest ((d,.slice (some ⟨b,i,none⟩) (j-i) (c-i))::L) ds w):R P n ops Q (⟨some d,.slice t x (some y) (some z) none,ty,ps,af,none⟩::rest) L ds w:=by
 refine o_slice (i:=i) (j:=j) hU hS hd hx hy hz hp hq h1 h2 ?_
 rw[if_neg (by omega)]
 simpa [Addr.add_lit] using next
end ops
theorem Hp.accMax {w0 w:World}{G0 G:PH}{S:List Nat}{B:List Res}(H:Hp w0 G0 S w G B){k:Nat}{e:TypeId}{sz n m c:Nat}{a:Option Addr}{cells:List Value}(hk:nth B k=some (acc e sz (.slice a m c) n cells)):c≤9223372036854775807:=by
 obtain⟨_,h⟩:=(H.own _ (nth_mem hk)).1
 rcases h with ⟨h,_⟩|⟨b,cap,C,g1,_,_,g4,_⟩
 ·cases h;decide
 ·simp only[Value.slice.injEq]at g1
  obtain⟨_,_,rfl⟩:=g1
  simp only[maxLen]at g4
  omega
end Fw
namespace Fw.Nd
open Sp
mutual
def strip:Nd→Nd| .mk _ n d i ks=> .mk 0 n d i (strips ks)
def strips:List Nd→List Nd|[]=>[]|k::r=>strip k::strips r
end
theorem strips_map:∀l:List Nd,strips l=l.map strip
 | []=>rfl
 | k::r=>by simp[strips,strips_map r]
theorem strip_name (t:Nd):t.strip.name=t.name:=by cases t;rfl
theorem strip_dir (t:Nd):t.strip.dir=t.dir:=by cases t;rfl
theorem strip_ids (t:Nd):t.strip.ids=t.ids:=by cases t;rfl
mutual
theorem strip_flat (s:Bs):∀t:Nd,t.strip.flat s=t.flat s
 | .mk _ n d i ks=>by simp only[strip,flat];exact strips_flat s ks
theorem strips_flat (s:Bs):∀l:List Nd,flats s (strips l)=flats s l
 | []=>rfl
 | k::r=>by simp only[strips,flats,strip_name,strip_dir,strip_ids,strip_flat _ k,strips_flat s r]
end
theorem strips_pw {l : List Nd} : (strips l).Pairwise (fun a b => lt a.name b.name = true) ↔ l.Pairwise (fun a b => lt a.name b.name = true) := by
 rw[strips_map,List.pairwise_map]
 simp only[strip_name]
mutual
theorem strip_wf:∀t:Nd,t.strip.wf↔t.wf
 | .mk _ n d i ks=>by simp only[strip,wf,strips_pw,strips_wf ks]
theorem strips_wf:∀l:List Nd,wfs (strips l)↔wfs l
 | []=>by simp[strips]
 | k::r=>by simp only[strips,wfs,strip_name,strip_wf k,strips_wf r]
end
theorem TOK.strip {T t:Nd}{L:List BItem}(h:TOK t L)(e:T.strip=t.strip):TOK T L :=
 ⟨by rw[←strip_wf,e,strip_wf];exact h.wf,by rw[←strip_dir,e,strip_dir];exact h.dir,by rw[←strip_flat,e,strip_flat];exact h.flat,h.vt⟩
theorem strip_mk {b:Nat}{t:Nd}{ks:List Nd}(h:ks.map Nd.strip=t.kids.map Nd.strip):(Nd.mk b t.name t.dir t.ids ks).strip=t.strip:=by
 obtain⟨b0,n,d,i,ks0⟩:=t
 simp only[Nd.strip,strips_map]
 rw[h];rfl
theorem strip_take {l m:List Nd}{k:Nat}{z T:Nd}(hz:l[k]? = some z)(h:m.map strip=(l.take k).map strip)(hT:T.strip=z.strip):(m++[T]).map strip=(l.take (k+1)).map strip:=by
 rw[List.take_succ,hz];simp[h,hT]
theorem strip_len {l m:List Nd}(h:m.map strip=l.map strip):m.length=l.length:=by have:=congrArg List.length h;simpa using this
end Fw.Nd
namespace Sp
open Fw
def cntT (l:List Nd)(id:Int):Nat:=(l.map (fun t=>l11Count (t.flat []) id)).sum
theorem cntT_succ {l:List Nd}{id:Int}{k:Nat}{z:Nd}(h:l[k]? = some z):cntT (l.take (k+1)) id=cntT (l.take k) id+cntU (z.flat []) id (z.flat []).length:=by
 simp[cntT,take_succ' h,l11Count]
theorem ids4 {l:List BHeld}{ids:List Int}(h:l4Ids l ids=true):ids.length≤4:=by
 simp only[l4Ids,Bool.and_eq_true,decide_eq_true_eq]at h
 exact h.2
theorem fidx_some {α:Type}{p:α→Bool}:∀{l:List α} {k:Nat} {z:α},(∀(j:Nat) (x:α),j<k→l[j]? = some x→p x=false)→l[k]? = some z→p z=true→l.findIdx? p=some k
 | [],k,z,_,h,_=>by simp at h
 | q::r,0,z,_,h,hp=>by simp at h;subst h;simp[List.findIdx?_cons,hp]
 | q :: r, k + 1, z, h1, h, hp => by
  have hq:=h1 0 q (by omega) rfl
  have ih:=fidx_some (l:=r) (k:=k) (fun j x hj hx=>h1 (j+1) x (by omega) (by simpa using hx)) (by simpa using h) hp
  simp[List.findIdx?_cons,hq,ih]
theorem fidx_none {α:Type}{p:α→Bool}{l:List α}(h:∀(j:Nat) (x:α),j<l.length→l[j]? = some x→p x=false):l.findIdx? p=none:=by
 rw[List.findIdx?_eq_none_iff]
 intro x hx
 obtain⟨j,hj⟩:=List.getElem?_of_mem hx
 exact h j x (List.getElem?_eq_some_iff.1 hj).1 hj
end Sp
namespace Sp
theorem fidx_step {α:Type}{p:α→Bool}{l:List α}{k:Nat}{z:α}(h:∀(j:Nat) (x:α),j<k→l[j]? = some x→p x=false)(hz:l[k]? = some z)(hp:p z=false):∀(j:Nat) (x:α),j<k+1→l[j]? = some x→p x=false:=by
 intro j x hj hx
 rcases Nat.lt_or_ge j k with h1|h1
 ·exact h j x h1 hx
 ·obtain rfl:j=k:=by omega
  rw[hx]at hz;cases hz;exact hp
end Sp
namespace Fw
open Go
theorem ChkF.onecells {α:Type}{E:Fr→α→List Value→Prop}{sz:Nat}{c:List Value}{xs:List α}{F:Fr}(h:ChkF E sz c xs F)(hE:∀F x cs,E F x cs→∀u ∈ cs,u.oneCell'=true):∀u ∈ c,u.oneCell'=true:=by
 obtain⟨css,Fs,rfl,rfl,h3,h4,h5⟩:=h
 intro u hu
 obtain⟨cs,hcs,hu⟩:=List.mem_flatten.1 hu
 obtain⟨j,hj⟩:=List.getElem?_of_mem hcs
 have hj':=(List.getElem?_eq_some_iff.1 hj).1
 obtain⟨cs',Fi,e1,e2,e3,e4⟩:=h5 j xs[j] (by simp)
 rw[hj]at e1
 cases e1
 exact hE _ _ _ e4 u hu
section ops
variable {P:Program} {n:Nat} {ops:Array Oper} {Q:Post} {rest:List Oper} {L:Slots} {ds:List Deferred} {w w0:World} {G0:PH} {S:List Nat} {G:PH} {B:List Res}
variable {ty:TypeId} {ps:String} {af:Array Edge}
theorem o_append_F {α:Type}{E:Fr→α→List Value→Prop}(k:Nat){F:Fr}(H:Hp w0 G0 S w G (frag F::B)){d:Nat}{t e e2:TypeId}{i:TypeInfo}{sz bytes:Nat}{x y:Operand}{v:Value}{k0:Nat}{xs:List Value}{a:Option Addr}{m c:Nat}{zs:List α}
  (ho:OwnS E sz e2 F (.slice a m c) zs) (hE:∀F x cs,E F x cs→∀u ∈ cs,u.oneCell'=true)
  (hU:P.underlying t=some (.slice e)) (hI:∀w,(typeInfo e).run P w= .ok i w) (hz:∃z,i.zero=some z∧(vc z).length=sz) (hs:i.size=sz) (hby:i.bytes=bytes) (hsz:Nat.blt 0 sz=true) (hd:Nat.blt d n=true)
  (hx:od L x=some v) (hy:od L y=some (.slice a m c)) (hk:nth B k=some (acc e sz v k0 xs)) (hb:k0+m≤2199023255552) (hb2:Nat.ble bytes 64=true)
  (next:∀v' w' cells F',Hp w0 G0 S w' G (frag F'::setN B k (acc e sz v' (k0+m) (xs++cells)))→ChkF E sz cells zs F'→m=zs.length→R P n ops Q rest ((d,v')::L) ds w') :
  R P n ops Q (⟨some d,.call ⟨.builtin .append,#[x,y],#[t,t]⟩,ty,ps,af,none⟩::rest) L ds w:=by
 obtain⟨h0,h|⟨b,cap,C,cells,F',h1,h2,h3,rfl,h5,h6,h7⟩⟩:=ho
 ·obtain⟨h1,rfl,rfl⟩:=h
  simp only[Value.slice.injEq]at h1
  obtain⟨rfl,rfl,rfl⟩:=h1
  refine o_append_P (α:=Int) (lim:=LIM) (E:=fun _ _ _=>False) (k+1) H (zs:=[]) (RdS.nil _ _ _) (by simp) hU hI hz hs hby hsz hd hx hy (by simpa [nth] using hk) hb hb2 ?_
  intro v' w' css hcl _ H'
  have:css=[]:=List.eq_nil_of_length_eq_zero (by simpa using hcl)
  subst this
  exact next v' w' [] [] (by simpa [setN] using H') ChkF.nil rfl
 ·simp only[Value.slice.injEq]at h1
  obtain⟨rfl,rfl,rfl⟩:=h1
  have hw:w.heap[b]? = some (.cells C e2 (0,0)):=(H.own (frag ((b,.cells C e2 (0,0))::F')) (List.mem_cons_self ..)).1 b _ (by simp[fh])
  refine o_append (k+1) H (b:=b) (o:=0) (m:=zs.length) (c:=c) (news:=cells) hU hI hz hs hby hsz hd hx hy (by simpa [nth] using hk) h7.length (fun j u hu=>?_) (h7.onecells hE) hb (by simpa using hb2) ?_
  ·rw[←h6,List.getElem?_take]at hu
   split at hu
   ·simp only[World.cell?,Nat.zero_add,hw]
    simpa using hu
   ·cases hu
  ·intro v' w' H'
   simp only[setN]at H'
   have H2:=H'.outF
   exact next v' w' cells F' (by simpa [delN] using H2.del (k:=0) rfl) h7 rfl
end ops
section
variable (NT PT:TypeId)
mutual
def NdC:Nd→Fr→Prop
 | .mk b nm d ids ks=>fun F=>nm.length≤16777216∧ks.length≤1099511627776∧∃a m c kv Fi Fk Fs,F=Fi++(b,cl [str nm,.bool d,.slice a m c,kv] NT)::Fk∧OI Fi (.slice a m c) ids∧KArr PT ks kv Fk Fs∧NdsC ks Fs
def NdsC:List Nd→Fr→Prop
 | []=>fun F=>F=[]
 | k::r=>fun F=>∃F1 F2,F=F1++F2∧NdC k F1∧NdsC r F2
end
end
section
variable {NT PT:TypeId}
theorem NdsC.snoc {k:Nd}{Fk:Fr}:∀{l:List Nd} {F:Fr},NdsC NT PT l F→NdC NT PT k Fk→NdsC NT PT (l++[k]) (F++Fk)
 | [],F,h,hk=>by simp only[NdsC]at h;subst h;simp only[List.nil_append,NdsC];exact⟨Fk,[],by simp,hk,rfl⟩
 | q :: r, F, h, hk => by
  simp only[NdsC]at h
  obtain⟨F1,F2,rfl,h1,h2⟩:=h
  simp only[List.cons_append,NdsC]
  exact⟨F1,F2++Fk,by simp,h1,NdsC.snoc h2 hk⟩
mutual
theorem NdC.share:∀{t:Nd} {F:Fr},NdC NT PT t F→(dm F).Nodup→∃Fi F',F.Perm (Fi++F')∧∀G,PLe (fh Fi) G→NdO NT PT G t F'
 | .mk b nm d ids ks, F, h, hn => by
  simp only[NdC]at h
  obtain⟨h1,h0,a,m,c,kv,Fi,Fk,Fs,rfl,h2,h3,h4⟩:=h
  rw[dm_append]at hn
  obtain⟨n1,n2,n3⟩:=List.nodup_append.1 hn
  have n2':b ∉ dm Fk∧(dm Fk).Nodup:=by simpa [dm] using n2
  have hns:(dm Fs).Nodup:=by
   rcases h3 with ⟨_,_,rfl⟩|⟨kb,cap,C,_,_,_,_,_,rfl⟩
   ·exact n2'.2
   ·exact(by simpa [dm] using n2'.2:kb ∉ dm Fs∧(dm Fs).Nodup).2
  obtain⟨Fi2,Fs',p1,p2⟩:=NdsC.share h4 hns
  obtain⟨Fk',hk',hp⟩:∃Fk',KArr PT ks kv Fk' Fs'∧Fk.Perm (Fi2++Fk'):=by
   rcases h3 with ⟨rfl,rfl,rfl⟩|⟨kb,cap,C,rfl,g1,g2,g3,g4,rfl⟩
   ·exact⟨Fs',.inl ⟨rfl,rfl,rfl⟩,p1⟩
   ·exact⟨(kb,.cells C PT (0,0))::Fs',.inr ⟨kb,cap,C,rfl,g1,g2,g3,g4,rfl⟩,(List.Perm.cons _ p1).trans List.perm_middle.symm⟩
  refine⟨Fi++Fi2,(b,cl [str nm,.bool d,.slice a m c,kv] NT)::Fk',?_,fun G hG=>?_⟩
  ·rw[List.append_assoc]
   refine List.Perm.append_left Fi ?_
   exact(List.Perm.cons _ hp).trans List.perm_middle.symm
  ·simp only[NdO]
   have hmem : ∀ x, x ∈ dm Fi → x ∉ dm Fi2 := fun x hx hx2 => by
    have:x ∈ dm Fk:=((hp.map Prod.fst).mem_iff).2 (by simpa [dm] using .inl (by simpa [dm] using hx2))
    exact n3 x hx x (by simp[dm];right;simpa [dm] using this) rfl
   refine⟨h1,h0,a,m,c,kv,Fk',Fs',rfl,?_,hk',p2 G ((fh_right hmem).trans hG)⟩
   exact h2.rd ((fh_left _ _).trans hG) n1
theorem NdsC.share:∀{l:List Nd} {F:Fr},NdsC NT PT l F→(dm F).Nodup→∃Fi F',F.Perm (Fi++F')∧∀G,PLe (fh Fi) G→NdsO NT PT G l F'
 | [],F,h,_=>by simp only[NdsC]at h;subst h;exact⟨[],[],.refl _,fun G _=>by simp[NdsO]⟩
 | k :: r, F, h, hn => by
  simp only[NdsC]at h
  obtain⟨F1,F2,rfl,h1,h2⟩:=h
  rw[dm_append]at hn
  obtain⟨n1,n2,n3⟩:=List.nodup_append.1 hn
  obtain⟨Fi1,F1',p1,q1⟩:=NdC.share h1 n1
  obtain⟨Fi2,F2',p2,q2⟩:=NdsC.share h2 n2
  refine⟨Fi1++Fi2,F1'++F2',?_,fun G hG=>?_⟩
  ·refine(p1.append p2).trans ?_
   rw[List.append_assoc,List.append_assoc]
   refine List.Perm.append_left Fi1 ?_
   rw[←List.append_assoc,←List.append_assoc]
   exact List.Perm.append_right F2' List.perm_append_comm
  ·simp only[NdsO]
   have hmem : ∀ x, x ∈ dm Fi1 → x ∉ dm Fi2 := fun x hx hx2 => by
    have e1:x ∈ dm F1:=((p1.map Prod.fst).mem_iff).2 (by simpa [dm] using .inl (by simpa [dm] using hx))
    have e2:x ∈ dm F2:=((p2.map Prod.fst).mem_iff).2 (by simpa [dm] using .inl (by simpa [dm] using hx2))
    exact n3 x e1 x e2 rfl
   exact⟨F1',F2',rfl,q1 G ((fh_left _ _).trans hG),q2 G ((fh_right hmem).trans hG)⟩
end
end
theorem OIs.mk {e:TypeId}{F:Fr}{v:Value}{xs:List BItem}(h:OwnS itemO 3 e F v xs):OIs F v xs:=⟨e,h⟩
section
variable {NT PT:TypeId} {w0 w:World} {G0 G:PH} {S:List Nat} {B:List Res}
theorem Hp.makeC {b:Nat}{nm:Bs}{d:Bool}{ids:List Int}{a:Option Addr}{m c:Nat}{kv:Value}{Fi FK:Fr}{ks:List Nd}(H:Hp w0 G0 S w G (acc PT 1 kv ks.length (ptrs ks)::frag FK::blk b (cl [str nm,.bool d,.slice a m c,kv] NT)::frag Fi::B))(hn:nm.length≤16777216)(hl:ks.length≤1099511627776)(hi:OI Fi (.slice a m c) ids)(hk:NdsC NT PT ks FK) :
  ∃F,Hp w0 G0 S w G (frag F::B)∧NdC NT PT (.mk b nm d ids ks) F:=by
 have H1:Hp w0 G0 S w G (acc PT 1 kv ks.length (ptrs ks)::frag (FK++[])::blk b (cl [str nm,.bool d,.slice a m c,kv] NT)::frag Fi::B):=by rw[List.append_nil];exact H
 obtain⟨Fk,H2,hk2⟩:=H1.inK
 have H3:=(H2.swap0).inF
 have H4:=(H3.swap0).mergeF
 refine⟨_,H4,?_⟩
 simp only[NdC]
 exact⟨hn,hl,a,m,c,kv,Fi,Fk,FK,by simp,hi,hk2,hk⟩
theorem Hp.shareC {F:Fr}{t:Nd}(H:Hp w0 G0 S w G (frag F::B))(h:NdC NT PT t F)(hS:∀b,b ∈ dm F→b ∉ S):∃G' F',Hp w0 G0 S w G' (frag F'::B)∧PLe G G'∧NdO NT PT G' t F':=by
 obtain⟨Fi,F',p,q⟩:=h.share (nd_front H)
 have H1:=(H.permF p).splitF
 obtain⟨G',H2,h1,h2⟩:=Hp.keepF H1 (k:=0) rfl (fun b hb=>hS b (((p.map Prod.fst).mem_iff).2 (by simpa [dm] using .inl (by simpa [dm] using hb))))
 exact⟨G',F',by simpa [delN] using H2,h1,q G' h2⟩
end
theorem Chk.kd {G:PH}{c:List Value}{ks:List Nd}(h:Chk kdE 1 G c ks):c=ptrs ks:=by
 obtain⟨css,rfl,h2,h3⟩:=h
 have : css = ks.map (fun k => [ptr k.b]) := by
  apply List.ext_getElem?
  intro i
  rw[List.getElem?_map]
  cases hk:ks[i]? with
  | none =>
   rw[List.getElem?_eq_none_iff]at hk
   simp only[Option.map_none]
   exact List.getElem?_eq_none (by omega)
  | some k =>
   obtain⟨cs,e1,e2,e3⟩:=h3 i k hk
   rw[e1,e3];rfl
 rw[this]
 clear this h2 h3
 induction ks with
 | nil=>rfl
 | cons k r ih=>simp[ptrs]at ih ⊢;exact ih
theorem calls_of_WD {P:Program}{f:FuncId}{fn:Func}{c:Code}{l:List Value}{w:World}{R:Ending→World→Prop}{n:Nat}
  (hf:P.funcs[f]? = some fn) (hb:fn.body=some c) (hn:fn.ntmps=n) (hl:Nat.ble l.length n=true)
  (h:W P n (bodyPostD P fn R) c (initL 0 l) [] w):Calls P f l.toArray w R:=by
 refine calls_of_wp_defers hf hb (h _ ⟨?_,?_,rfl⟩)
 ·have:l.length≤n:=by simpa using hl
  simp[hn];omega
 ·intro t v hv
  obtain⟨_,h2⟩:=lk_initL l 0 t v hv
  have hlt:t<l.length:=by
   have:=List.getElem?_eq_some_iff.1 h2
   obtain⟨h,_⟩:=this
   simpa using h
  simp only[Nat.sub_zero]at h2
  rw[Array.getElem?_append_left (by simpa using hlt)]
  simpa using h2
section
variable {P:Program} {n:Nat} {ops:Array Oper} {Q:Post} {rest:List Oper} {L:Slots} {ds:List Deferred} {w w0:World} {G0:PH} {S:List Nat} {G:PH} {B:List Res}
variable {ty:TypeId} {ps:String} {af:Array Edge}
theorem o_defer {f:FuncId}{xs:List Operand}{ts:Array TypeId}{vs:List Value}(hx:ods L xs=some vs)
  (next:R P n ops Q rest L ({target:= .fn (.func f) #[],args:=vs.toArray}::ds) w):R P n ops Q (⟨none,.defer ⟨.value (.func f),xs.toArray,ts⟩,ty,ps,af,none⟩::rest) L ds w:=by
 intro a ha
 refine wpList_plain rfl fun K hK=>?_
 have e:xs.map a.eval=vs:=ha.evals xs vs hx
 have hr : (execOp a.eval ⟨none, .defer ⟨.value (.func f), xs.toArray, ts⟩, ty, ps, af, none⟩).run P w = .ok (.defer { target := .fn (.func f) #[], args := vs.toArray }) w := by
  simp[execOp,resolve,Act.eval,Deferred.ofValue,e]
 unfold Oper.wp
 rw[hr,Oper.upon_defer]
 exact hK _ _ (next _ ⟨ha.size,ha.get,by simp[Act.put,ha.defers]⟩)
variable {fn:Func} {C:Ending→World→Prop}
theorem ret_unlock (k:Nat)(H:Hp w0 G0 S w G B){LL:Go.Conc.Locks.MuLink}(M:Go.Conc.Locks.MuLib P LL){b o:Nat}{l:List Value}{e:TypeId}{f:FuncId}{rs:List ResultVar}(hf:f=LL.unlock)(henter:∀args w,(callFunc f args).run P w= .ok (.enter f args) w)
  (hk:nth B k=some (blk b (cl l e))) (hl:nth l o=some (.int .i32 1)) (hr:fn.results=rs.toArray)
  (next:∀w',Hp w0 G0 S w' G (setN B k (blk b (cl (setN l o (.int .i32 0)) e)))→∃vs,RV P w' L rs vs∧C (.returned (tupleOf vs)) w') :
  N n (bodyPostD P fn C) .ret L [{target:= .fn (.func f) #[],args:=[.pointer (some ⟨b,o,none⟩)].toArray}] w:=by
 subst hf
 intro a ha
 show Leaves P fn a.tmps C a.defers .returning w
 rw[ha.defers]
 have hc:w.cell? ⟨b,o,none⟩=some (.int .i32 1):=blk_cell H hk (by rw[nth_eq]at hl;simpa using hl)
 refine leaves_cons (f:=LL.unlock) (args:= #[.pointer (some ⟨b,o,none⟩)]) (by simp) (by simp[invoke,henter]) ?_
 refine(Go.MuLone.unlock_deferred M ⟨b,o,none⟩ .returning w hc (frozen_blk H hk)).mono ?_
 rintro e u' w' ⟨rfl,rfl,rfl⟩
 obtain⟨vs,h1,h2⟩:=next _ (setCell_blk H hk (o:=o) (.int .i32 0))
 exact⟨_,run_results' hr ⟨ha.size,ha.get,rfl⟩ h1,h2⟩
theorem o_lock (k:Nat)(H:Hp w0 G0 S w G B){LL:Go.Conc.Locks.MuLink}(M:Go.Conc.Locks.MuLib P LL){d b o:Nat}{l:List Value}{e:TypeId}{f:FuncId}{xs:List Operand}{ts:Array TypeId}(hf:f=LL.lock)(henter:∀args w,(callFunc f args).run P w= .ok (.enter f args) w)(hd:Nat.blt d n=true)
  (hx:ods L xs=some [.pointer (some ⟨b,o,none⟩)]) (hk:nth B k=some (blk b (cl l e))) (hl:nth l o=some (.int .i32 0))
  (next:∀w',Hp w0 G0 S w' G (setN B k (blk b (cl (setN l o (.int .i32 1)) e)))→R P n ops Q rest ((d,.tuple #[])::L) ds w') :
  R P n ops Q (⟨some d,.call ⟨.value (.func f),xs.toArray,ts⟩,ty,ps,af,none⟩::rest) L ds w:=by
 subst hf
 have hc:w.cell? ⟨b,o,none⟩=some (.int .i32 0):=blk_cell H hk (by rw[nth_eq]at hl;simpa using hl)
 refine o_call henter hd hx (Go.MuLone.lock_free M ⟨b,o,none⟩ w hc (frozen_blk H hk)) ?_
 rintro _ w' ⟨rfl,rfl⟩
 exact⟨_,rfl,next _ (setCell_blk H hk (o:=o) (.int .i32 1))⟩
end
def osE:PH→(Bs×Nd)→List Value→Prop:=fun _ x cs=>cs=[str x.1,ptr x.2.b]∧x.1.length≤16777216
instance:MonoE osE:=⟨fun _ h=>h⟩
theorem prow_blk {G:PH}{b:Nat}{l:List Value}{e:TypeId}(h:(blk b (cl l e)).pred G):PRow G b 0 l:=fun j v hv=>⟨l.toArray,e,(0,0),h,by rw[Nat.zero_add];simpa using hv⟩
abbrev SnOK (xs:List (Bs×Nd)) (L:List BSnap):Prop:=All2 (fun x s=>x.1=s.name∧Nd.TOK x.2 s.tree∧Sp.TreeValid s.tree=true) xs L
theorem All2.len {α β:Type}{R:α→β→Prop}{l:List α}{m:List β}(h:All2 R l m):l.length=m.length:=by
 induction h with
 | nil=>rfl
 | cons _ _ ih=>simp[ih]
theorem All2.snoc {α β:Type}{R:α→β→Prop}{l:List α}{m:List β}{x:α}{y:β}(h:All2 R l m)(hx:R x y):All2 R (l++[x]) (m++[y]):=by
 induction h with
 | nil=>exact .cons hx .nil
 | cons h _ ih=>exact .cons h ih
theorem All2.at {α β:Type}{R:α→β→Prop}{l:List α}{m:List β}(h:All2 R l m):∀{i:Nat} {x:α},l[i]? = some x→∃y,m[i]? = some y∧R x y:=by
 induction h with
 | nil=>intro i x hx;simp at hx
 | cons h _ ih =>
  intro i x hx
  cases i with
  | zero=>simp at hx;subst hx;exact⟨_,rfl,h⟩
  | succ i=>exact ih (by simpa using hx)
section
variable {P:Program} {n:Nat} {ops:Array Oper} {Q:Post} {rest:List Oper} {L:Slots} {ds:List Deferred} {w:World}
variable {ty:TypeId} {ps:String} {af:Array Edge}
theorem o_makefn1 {d:Nat}{f:FuncId}{x:Operand}{v:Value}(hd:Nat.blt d n=true)(hx:od L x=some v)
  (next:R P n ops Q rest ((d,.func (.func f) #[] #[v])::L) ds w):R P n ops Q (⟨some d,.makeFunc (.func f) #[] #[x],ty,ps,af,none⟩::rest) L ds w :=
 R_run hd (fun a ha=>by simp[execOp,Instr.makeFunc,ha.eval hx]) next
theorem o_callc {d:Nat}{f:FuncId}{c:Operand}{xs:List Operand}{ts:Array TypeId}{vs:List Value}{cv:Value}{C:Ending→World→Prop}(hf:∀args w,(callFunc f args).run P w= .ok (.enter f args) w)(hd:Nat.blt d n=true)
  (hc0:od L c=some (.func (.func f) #[] #[cv])) (hx:ods L xs=some vs) (hc:Calls P f (vs++[cv]).toArray w C) (next:∀e w',C e w'→∃v,e= .returned v∧R P n ops Q rest ((d,v)::L) ds w') :
  R P n ops Q (⟨some d,.call ⟨.value c,xs.toArray,ts⟩,ty,ps,af,none⟩::rest) L ds w:=by
 intro a ha
 refine wpList_plain rfl fun K hK=>?_
 have e:xs.map a.eval=vs:=ha.evals xs vs hx
 have hr:(execOp a.eval ⟨some d,.call ⟨.value c,xs.toArray,ts⟩,ty,ps,af,none⟩).run P w= .ok (.enter f (vs++[cv]).toArray) w:=by
  simp[execOp,resolve,invoke,ha.eval hc0,Deferred.ofValue,e,hf]
 unfold Oper.wp
 rw[hr,Oper.upon_enter]
 refine hc.mono fun e w' hC=>?_
 obtain⟨v,rfl,h⟩:=next e w' hC
 exact hK _ _ (h _ (ha.put hd v))
end
section
variable {NT PT:TypeId} {w0 w:World} {G0 G:PH} {S:List Nat} {B:List Res}
theorem NdsO.snoc {k:Nd}{Fk:Fr}{l:List Nd}{F:Fr}(h:NdsO NT PT G l F)(hk:NdO NT PT G k Fk):NdsO NT PT G (l++[k]) (F++Fk) :=
 NdsO.app.2 ⟨F,Fk,rfl,h,by simp only[NdsO];exact⟨Fk,[],by simp,hk,rfl⟩⟩
theorem Hp.lendNs (H:Hp w0 G0 S w G B){ks:List Nat}{k:Nat}{F:Fr}{l:List Nd}(hk:nth B k=some (frag F))(hm:ks.contains k=true)(h:NdsO NT PT G l F):∀t,t ∈ l→RdN (PPlus G w (fpsAt B ks)) t :=
 RdNs_iff.1 (NdsO.rd (PPlus.le _ _ _) h (H.lendPredL hk hm) (nd_front (H.toFront hk)))
end
end Fw
namespace Sp
open Fw
def useOK (s:List BHeld)(ts:List Nd):Bool:=ts.all (fun t=>(t.flat []).all (fun x=>l4Ids s x.ids))&&s.all (fun h=>decide ((cntT ts h.id:Int)=h.uses))
theorem dv_parts {d:BDisk}:DiskValid d=true↔StoreValid d.store=true∧TreeValid d.tree=true∧d.snaps.length≤6∧(∀(k:Nat) (s:BSnap),d.snaps[k]? = some s→l1Word s.name=true∧(k:Int)≤l12At d.snaps s.name∧TreeValid s.tree=true) ∧
  (l11Files d.store d.tree=true∧∀(k:Nat) (s:BSnap),d.snaps[k]? = some s→l11Files d.store s.tree=true)∧d.store.all (usesD d)=true:=by
 simp only[DiskValid,l12Snaps,Bool.and_eq_true,decide_eq_true_eq]
 constructor
 ·rintro⟨h1,⟨⟨h2,h3⟩,h4⟩,h5,h6⟩
  have key:∀(k:Nat) (s:BSnap),d.snaps[k]? = some s→okS d k=true:=fun k s hk=>List.all_eq_true.1 h5 k (by simpa using (List.getElem?_eq_some_iff.1 hk).1)
  refine⟨h2,h3,h6,fun k s hk=>?_,⟨h4,fun k s hk=>?_⟩,h1⟩
  ·have:=key k s hk
   rw[okS_at hk]at this
   simp only[Bool.and_eq_true,decide_eq_true_eq]at this
   exact⟨this.1.1.1,this.1.1.2,this.1.2⟩
  ·have:=key k s hk
   rw[okS_at hk]at this
   simp only[Bool.and_eq_true]at this
   exact this.2
 ·rintro⟨h2,h3,h6,h7,⟨h4,h8⟩,h1⟩
  refine⟨h1,⟨⟨h2,h3⟩,h4⟩,?_,h6⟩
  rw[List.all_eq_true]
  intro k hk
  have hk':k<d.snaps.length:=by simpa using hk
  rw[okS_at (List.getElem?_eq_getElem hk')]
  obtain⟨g1,g2,g3⟩:=h7 k _ (List.getElem?_eq_getElem hk')
  simp only[Bool.and_eq_true,decide_eq_true_eq]
  exact⟨⟨⟨g1,g2⟩,g3⟩,h8 k _ (List.getElem?_eq_getElem hk')⟩
theorem cntT_sn {xs:List (Bs×Nd)}{L:List BSnap}(h:SnOK xs L)(id:Int):cntT (xs.map (·.2)) id=cntS L id L.length:=by
 induction h with
 | nil=>rfl
 | cons h t ih =>
  obtain⟨h1,h2,h3⟩:=h
  simp only[cntT,cntS,List.map_cons,List.sum_cons,List.take_length]at ih ⊢
  rw[h2.flat]
  omega
theorem dv_use {d:BDisk}{T:Nd}{xs:List (Bs×Nd)}(hS:StoreValid d.store=true)(hT:Nd.TOK T d.tree)(hl:d.snaps.length≤6)(hx:SnOK xs d.snaps)(hw:∀(k:Nat) (s:BSnap),d.snaps[k]? = some s→l1Word s.name=true∧(k:Int)≤l12At d.snaps s.name) :
  DiskValid d=useOK d.store (T::xs.map (·.2)):=by
 rw[Bool.eq_iff_iff,dv_parts]
 have hc : ∀ id, cntT (T :: xs.map (·.2)) id = l12Count d id := fun id => by
  have:=cntT_sn hx id
  simp only[cntT,List.map_cons,List.sum_cons,hT.flat]at this ⊢
  rw[this];rfl
 have hf : (T :: xs.map (·.2)).all (fun t => (t.flat []).all (fun x => l4Ids d.store x.ids)) = true ↔ l11Files d.store d.tree = true ∧ ∀ (k : Nat) (s : BSnap), d.snaps[k]? = some s → l11Files d.store s.tree = true := by
  simp only[List.all_cons,Bool.and_eq_true,hT.flat]
  refine and_congr Iff.rfl ?_
  rw[List.all_eq_true]
  constructor
  ·intro h k s hk
   obtain⟨x,hx1,hx2⟩:=f2_mem_right hx (List.mem_of_getElem? hk)
   have:=h x.2 (List.mem_map_of_mem hx1)
   rw[hx2.2.1.flat]at this
   exact this
  ·intro h t ht
   obtain⟨x,hx1,rfl⟩:=List.mem_map.1 ht
   obtain⟨s,hs1,hs2⟩:=f2_mem_left hx hx1
   obtain⟨k,hk⟩:=List.getElem?_of_mem hs1
   rw[hs2.2.1.flat]
   exact h k s hk
 have hu : d.store.all (fun h => decide ((cntT (T :: xs.map (·.2)) h.id : Int) = h.uses)) = d.store.all (usesD d) := by
  congr 1
  funext h
  rw[hc];rfl
 simp only[useOK,Bool.and_eq_true,hu,hf]
 constructor
 ·rintro⟨_,_,_,_,h5,h6⟩;exact⟨h5,h6⟩
 ·rintro⟨h5,h6⟩
  refine⟨hS,hT.valid,hl,fun k s hk=>⟨(hw k s hk).1,(hw k s hk).2,?_⟩,h5,h6⟩
  obtain⟨x,hx1,hx2⟩:=f2_mem_right hx (List.mem_of_getElem? hk)
  exact hx2.2.2
theorem dv_no {d:BDisk}(h:¬(StoreValid d.store=true∧TreeValid d.tree=true∧d.snaps.length≤6∧∀(k:Nat) (s:BSnap),d.snaps[k]? = some s→l1Word s.name=true∧(k:Int)≤l12At d.snaps s.name∧TreeValid s.tree=true)):DiskValid d=false:=by
 cases e:DiskValid d with
 | false=>rfl
 | true =>
  obtain⟨h1,h2,h3,h4,_⟩:=dv_parts.1 e
  exact absurd ⟨h1,h2,h3,h4⟩ h
theorem sn_find {xs : List (Bs × Nd)} {L : List BSnap} (h : SnOK xs L) (n : Bs) : xs.findIdx? (fun x => decide (x.1 = n)) = atS L n := by
 induction h with
 | nil=>rfl
 | cons h t ih =>
  simp only[atS,List.findIdx?_cons]at ih ⊢
  rw[h.1,ih]
theorem at_take {L:List BSnap}{k:Nat}{s:BSnap}(hk:L[k]? = some s):((k:Int)≤l12At L s.name)↔optI (atS (L.take k) s.name)<0:=by
 have hkl:=(List.getElem?_eq_some_iff.1 hk).1
 simp only[l12At]
 cases e:atS (L.take k) s.name with
 | none =>
  have h1 : atS L s.name = some k := fidx_some (fun j x hj hx => by
   simp only[atS,List.findIdx?_eq_none_iff]at e
   exact e x (List.mem_of_getElem? (i:=j) (by rw[List.getElem?_take,if_pos hj];exact hx))) hk (by simp)
  simp[h1,optI]
 | some j =>
  have h2:j<k∧∃x,L[j]? = some x∧x.name=s.name:=by
   simp only[atS]at e
   obtain⟨g1,g2,_⟩:=List.findIdx?_eq_some_iff_getElem.1 e
   have:j<k:=by simp at g1;omega
   exact⟨this,L[j],by simp,by simpa using g2⟩
  obtain⟨h3,x,h4,h5⟩:=h2
  cases e2:atS L s.name with
  | none =>
   simp only[atS,List.findIdx?_eq_none_iff]at e2
   have:=e2 x (List.mem_of_getElem? h4)
   simp[h5]at this
  | some i =>
   have:i≤j:=by
    simp only[atS]at e2
    obtain⟨_,_,g3⟩:=List.findIdx?_eq_some_iff_getElem.1 e2
    rcases Nat.lt_or_ge j i with h|h
    ·have:=g3 j h
     obtain⟨h6,rfl⟩:=List.getElem?_eq_some_iff.1 h4
     simp[h5]at this
    ·exact h
   simp[optI];omega
end Sp
namespace Fw
open Sp
theorem All2.snoc2 {xs:List (Bs×Nd)}{L:List BSnap}{k:Nat}{s:BSnap}{x:Bs×Nd}(h:SnOK xs (L.take k))(hs:L[k]? = some s)(h1:x.1=s.name)(h2:Nd.TOK x.2 s.tree)(h3:TreeValid s.tree=true):SnOK (xs++[x]) (L.take (k+1)):=by
 rw[take_succ' hs]
 exact h.snoc ⟨h1,h2,h3⟩
theorem names_step {xs : List (Bs × Nd)} {L : List BSnap} {k : Nat} {s : BSnap} (hw : ∀ (j : Nat) (s : BSnap), j < k → L[j]? = some s → l1Word s.name = true ∧ (j : Int) ≤ l12At L s.name) (hz : L[k]? = some s) (h1 : l1Word s.name = true) (hSn : SnOK xs (L.take k)) (h2 : optI (xs.findIdx? (fun x => decide (x.1 = s.name))) < 0) :
  ∀(j:Nat) (s:BSnap),j<k+1→L[j]? = some s→l1Word s.name=true∧(j:Int)≤l12At L s.name:=by
 intro j t hj ht
 rcases Nat.lt_or_ge j k with h|h
 ·exact hw j t h ht
 ·obtain rfl:j=k:=by omega
  rw[ht]at hz;cases hz
  exact⟨h1,(at_take ht).2 (by rw[←sn_find hSn];exact h2)⟩
theorem sn_ok {xs:List (Bs×Nd)}{L:List BSnap}(h:SnOK xs L):∀t,t ∈ xs.map (·.2)→t.wf∧t.cnt≤12:=by
 intro t ht
 obtain⟨x,hx,rfl⟩:=List.mem_map.1 ht
 obtain⟨s,_,hs⟩:=f2_mem_left h hx
 have:=hs.2.1.cnt
 have:=tree_len hs.2.2
 exact⟨hs.2.1.wf,by omega⟩
end Fw
namespace Fw
open Go Sp
theorem take_eq {d : BDisk} {n : Bs} (hd : DiskValid d = true) (h1 : l1Word n = true) (h2 : (atS d.snaps n).isNone = true) (h3 : d.snaps.length ≠ 6) : SnapTake d n = (l12Keep d.store d.tree).map (fun s => ⟨s, d.tree, d.snaps ++ [⟨n, d.tree⟩]⟩) := by
 unfold SnapTake
 rw[if_pos]
 simp[hd,h1,h2,h3]
theorem All2.push {xs:List (Bs×Nd)}{L:List BSnap}{x:Bs×Nd}{s:BSnap}(h:SnOK xs L)(h1:x.1=s.name)(h2:Nd.TOK x.2 s.tree)(h3:TreeValid s.tree=true):SnOK (xs++[x]) (L++[s]):=h.snoc ⟨h1,h2,h3⟩
theorem OHs.mk {e:TypeId}{F:Fr}{v:Value}{xs:List BHeld}(h:OwnS heldO 3 e F v xs):OHs F v xs:=⟨e,h⟩
theorem sn_list {xs : List (Bs × Nd)} {L : List BSnap} (h : SnOK xs L) : xs.map (fun x => (⟨x.1, x.2.flat []⟩ : BSnap)) = L := by
 induction h with
 | nil=>rfl
 | cons h t ih =>
  rw[List.map_cons,ih,h.2.1.flat,h.1]
end Fw
namespace Fw
theorem oh_nil:OHs [] (.slice none 0 0) []:=⟨0,by simp,.inl ⟨rfl,rfl,rfl⟩⟩
theorem oi_nil:OIs [] (.slice none 0 0) []:=⟨0,by simp,.inl ⟨rfl,rfl,rfl⟩⟩
theorem os_nil:OSn [] (.slice none 0 0) []:=⟨0,by simp,.inl ⟨rfl,rfl,rfl⟩⟩
end Fw
namespace Sp
theorem same_at {α:Type}{a b:List α}{k:Nat}{x y:α}(h:a=b)(hx:a[k]? = some x)(hy:b[k]? = some y):x=y:=by subst h;rw[hx]at hy;exact Option.some.inj hy
theorem take_set {α:Type}{xs a:List α}{k:Nat}{z:α}(h:xs.take k=a.take k)(hl:xs.length=a.length)(hz:a[k]? = some z):(xs.set k z).take (k+1)=a.take (k+1):=by
 have hk:=(List.getElem?_eq_some_iff.1 hz).1
 rw[take_succ' hz,←h]
 apply List.ext_getElem?
 intro j
 rw[List.getElem?_take]
 rcases Nat.lt_trichotomy j k with h1|h1|h1
 ·rw[if_pos (by omega),List.getElem?_set_ne (by omega),List.getElem?_append_left (by simp;omega),List.getElem?_take,if_pos h1]
 ·subst h1
  rw[if_pos (by omega),List.getElem?_set_self (by omega),List.getElem?_append_right (by simp;omega)]
  simp[Nat.min_eq_left (by omega:j≤xs.length)]
 ·rw[if_neg (by omega),List.getElem?_eq_none (by simp;omega)]
end Sp
namespace Fw
open Go
theorem split_at {α:Type}:∀(Fs:List (List α)) (i:Nat) (Fi:List α),Fs[i]? = some Fi→Fs.flatten=(Fs.take i).flatten++(Fi++(Fs.drop (i+1)).flatten)
 | [],i,_,h=>by simp at h
 | x::r,0,Fi,h=>by simp at h;subst h;simp
 | x :: r, i + 1, Fi, h => by
  simp only[List.getElem?_cons_succ]at h
  simp only[List.flatten_cons,List.take_succ_cons,List.drop_succ_cons,List.append_assoc]
  rw[split_at r i Fi h]
theorem set_flat {α:Type}(Fs:List (List α))(i:Nat)(F':List α)(hi:i<Fs.length):(Fs.set i F').flatten=(Fs.take i).flatten++(F'++(Fs.drop (i+1)).flatten):=by
 have h:=split_at (Fs.set i F') i F' (by simp[hi])
 rw[h,List.take_set_of_le (Nat.le_refl _),List.drop_set_of_lt (by omega)]
theorem flat_get {α:Type}{sz:Nat}:∀(css:List (List α)) (i:Nat) (cs:List α),(∀c ∈ css,c.length=sz)→css[i]? = some cs→∀j v,cs[j]? = some v→css.flatten[i*sz+j]? = some v
 | [],i,cs,_,h,j,v,hv=>by simp at h
 | c :: r, 0, cs, hl, h, j, v, hv => by
  simp at h
  subst h
  rw[List.flatten_cons,Nat.zero_mul,Nat.zero_add,List.getElem?_append_left (List.getElem?_eq_some_iff.1 hv).1]
  exact hv
 | c :: r, i + 1, cs, hl, h, j, v, hv => by
  have hc:=hl c (by simp)
  simp only[List.getElem?_cons_succ]at h
  rw[List.flatten_cons,List.getElem?_append_right (by rw[hc,Nat.add_mul];omega),hc,Nat.add_mul,show i*sz+1*sz+j-sz=i*sz+j by omega]
  exact flat_get r i cs (fun d hd=>hl d (by simp[hd])) h j v hv
section
variable {α:Type} {E:Fr→α→List Value→Prop} {sz:Nat}
theorem ChkF.focus {c:List Value}{xs:List α}{F:Fr}(h:ChkF E sz c xs F){i:Nat}{x:α}(hx:xs[i]? = some x) :
  ∃(cs:List Value) (F1 Fi F2:Fr),F=F1++(Fi++F2)∧cs.length=sz∧E Fi x cs∧(∀j v,cs[j]? = some v→c[i*sz+j]? = some v) ∧
   (∀(Fi':Fr) (x':α) (off:Nat) (vs:List Value),off+vs.length≤sz→E Fi' x' (setCs cs off vs)→ChkF E sz (setCs c (i*sz+off) vs) (xs.set i x') (F1++(Fi'++F2))) ∧
   ∀(Fi':Fr) (x':α),E Fi' x' cs→ChkF E sz c (xs.set i x') (F1++(Fi'++F2)):=by
 obtain⟨css,Fs,rfl,rfl,h3,h4,h5⟩:=h
 obtain⟨cs,Fi,e1,e2,e3,e4⟩:=h5 i x hx
 have hsz:=ChkF.szs h3 h5
 have hil:i<css.length:=(List.getElem?_eq_some_iff.1 e1).1
 suffices key : ∀ (Fi' : Fr) (x' : α) (off : Nat) (vs : List Value), off + vs.length ≤ sz → E Fi' x' (setCs cs off vs) → ChkF E sz (setCs css.flatten (i * sz + off) vs) (xs.set i x') ((Fs.take i).flatten ++ (Fi' ++ (Fs.drop (i + 1)).flatten)) from
  ⟨cs,_,Fi,_,split_at Fs i Fi e2,e3,e4,flat_get css i cs hsz e1,key,fun Fi' x' hE=>key Fi' x' 0 [] (by simp) hE⟩
 intro Fi' x' off vs ho hE
 refine⟨css.set i (setCs cs off vs),Fs.set i Fi',setCs_flatten ho css i cs hsz e1,(set_flat Fs i Fi' (by omega)).symm,by simp[h3],by simp[h4],?_⟩
 intro j y hy
 rw[List.getElem?_set]at hy
 rw[List.getElem?_set,List.getElem?_set]
 by_cases hij:i=j
 ·subst hij
  rw[if_pos rfl,if_pos (by omega)]at hy
  simp only[Option.some.injEq]at hy
  subst hy
  rw[if_pos rfl,if_pos hil,if_pos rfl,if_pos (by omega)]
  exact⟨_,_,rfl,rfl,by rw[length_setCs];exact e3,hE⟩
 ·rw[if_neg hij]at hy
  rw[if_neg hij,if_neg hij]
  exact h5 j y hy
theorem ChkF.rep {z:List Value}{x0:α}(h:E [] x0 z)(hl:z.length=sz)(n:Nat):ChkF E sz (Fw.rep n z) (List.replicate n x0) []:=by
 refine⟨List.replicate n z,List.replicate n [],rep_flat z n,by simp,by simp,by simp,fun i x hx=>?_⟩
 have hi:=(List.getElem?_eq_some_iff.1 hx).1
 simp only[List.length_replicate]at hi
 simp[hi]at hx
 subst hx
 exact⟨z,[],by simp[hi],by simp[hi],hl,h⟩
variable {w0 w w':World} {G0 G G':PH} {S:List Nat} {B Bs:List Res}
end
section ops
variable {P:Program} {n:Nat} {ops:Array Oper} {Q:Post} {rest:List Oper} {L:Slots} {ds:List Deferred} {w w0:World} {G0:PH} {S:List Nat} {G:PH} {B:List Res}
variable {ty:TypeId} {ps:String} {af:Array Edge}
theorem o_bneq_same {d:Nat}{x y:Operand}{t u:TypeId}{p:Bool}(hT:P.underlying t=some .bool)(hd:Nat.blt d n=true)(hx:od L x=some (.bool p))(hy:od L y=some (.bool p))
  (next:R P n ops Q rest ((d,.bool false)::L) ds w):R P n ops Q (⟨some d,.binOp .neq t x y u,ty,ps,af,none⟩::rest) L ds w :=
 o_bneq hT hd hx hy (by simpa using next)
end ops
section
variable {w0 w w':World} {G0 G G':PH} {S:List Nat} {B Bs:List Res}
theorem Hp.lendOHs (H:Hp w0 G0 S w G B){ks:List Nat}{k:Nat}{F:Fr}{v:Value}{xs:List BHeld}(hk:nth B k=some (frag F))(hm:ks.contains k=true)(h:OHs F v xs):RdH (PPlus G w (fpsAt B ks)) v xs :=
 h.rd (fun b o hb=>H.lendPredL hk hm b o hb) (dm_nodup H hk)
theorem Hp.lendOIs (H:Hp w0 G0 S w G B){ks:List Nat}{k:Nat}{F:Fr}{v:Value}{xs:List BItem}(hk:nth B k=some (frag F))(hm:ks.contains k=true)(h:OIs F v xs):RdItems (PPlus G w (fpsAt B ks)) v xs :=
 h.rd (fun b o hb=>H.lendPredL hk hm b o hb) (dm_nodup H hk)
theorem Hp.lendOSn (H:Hp w0 G0 S w G B){ks:List Nat}{k:Nat}{F:Fr}{v:Value}{xs:List BSnap}(hk:nth B k=some (frag F))(hm:ks.contains k=true)(h:OSn F v xs):RdSn (PPlus G w (fpsAt B ks)) v xs :=
 h.rd (fun b o hb=>H.lendPredL hk hm b o hb) (dm_nodup H hk)
theorem OSn.mk {e:TypeId}{F:Fr}{v:Value}{xs:List BSnap}(h:OwnS snapO 2 e F v xs):OSn F v xs:=⟨_,h⟩
theorem OI.mk {e:TypeId}{F:Fr}{v:Value}{xs:List Int}(h:OwnS intO 1 e F v xs):OI F v xs:=⟨_,h⟩
end
section
variable {α:Type}
def cnt (c:α→Nat):List α→Nat
 | []=>0
 | x::r=>c x+cnt c r
variable {f:Int→α→α} {c:α→Nat}
theorem cnt_append:∀(a b:List α),cnt c (a++b)=cnt c a+cnt c b
 | [],b=>by simp[cnt]
 | x::r,b=>by simp[cnt,cnt_append r b];omega
theorem take_succ {a:List α}{i:Nat}{x:α}(h:a[i]? = some x):a.take (i+1)=a.take i++[x]:=by
 rw[List.take_add_one,h];rfl
theorem cnt_succ {a:List α}{i:Nat}{x:α}(h:a[i]? = some x):cnt c (a.take (i+1))=cnt c (a.take i)+c x:=by
 rw[take_succ h,cnt_append];simp[cnt]
theorem cnt_le {a:List α}{i:Nat}{x:α}(h:a[i]? = some x):cnt c (a.take i)+c x≤cnt c a:=by
 rw[←cnt_succ h]
 conv=>rhs;rw[←List.take_append_drop (i+1) a,cnt_append]
 omega
end
end Fw
namespace Sp
open Go Fw
theorem getH_mem {L:List BHeld}(nd:(L.map (·.id)).Nodup){x:BHeld}(h:x ∈ L):getH L x.id=x:=by
 cases e:Sp.atH L x.id with
 | none=>exact absurd (List.mem_map_of_mem h) (Fw.atH_none e)
 | some j =>
  obtain⟨y,hy,hid⟩:=Fw.atH_some e
  rw[getH_some e hy]
  obtain⟨i,hi⟩:=List.getElem?_of_mem h
  have h1:(L.map (·.id))[i]? = some x.id:=by simp[hi]
  have h2:(L.map (·.id))[j]? = some x.id:=by simp[hy,hid]
  obtain⟨l1,e1⟩:=List.getElem?_eq_some_iff.1 h1
  obtain⟨l2,e2⟩:=List.getElem?_eq_some_iff.1 h2
  have:i=j:=by
   have hp:=List.pairwise_iff_getElem.1 nd
   rcases Nat.lt_trichotomy i j with hlt|heq|hlt
   ·exact absurd (e1.trans e2.symm) (hp i j l1 l2 hlt)
   ·exact heq
   ·exact absurd (e2.trans e1.symm) (hp j i l2 l1 hlt)
  subst this
  rw[hi]at hy
  exact(Option.some.inj hy).symm
theorem at_mem {L:List BHeld}{a:Int}:(Sp.atH L a).isSome=true↔a ∈ L.map (·.id):=by
 constructor
 ·intro h
  obtain⟨i,hi⟩:=Option.isSome_iff_exists.1 h
  obtain⟨y,hy,rfl⟩:=Fw.atH_some hi
  exact List.mem_map_of_mem (List.mem_of_getElem? hy)
 ·intro h
  cases e:Sp.atH L a with
  | none=>exact absurd h (Fw.atH_none e)
  | some i=>rfl
theorem getH_not {L:List BHeld}{a:Int}(h:a ∉ L.map (·.id)):getH L a=⟨0,[],0⟩:=by
 refine get_no ?_
 cases e:(Sp.atH L a).isSome with
 | false=>rfl
 | true=>exact absurd (at_mem.1 e) h
theorem getH_perm {L L':List BHeld}(nd:(L.map (·.id)).Nodup)(hp:L.Perm L')(a:Int):getH L' a=getH L a:=by
 have hp2:(L.map (·.id)).Perm (L'.map (·.id)):=hp.map _
 by_cases h:a ∈ L.map (·.id)
 ·obtain⟨x,hx,rfl⟩:=List.mem_map.1 h
  rw[getH_mem nd hx,getH_mem (hp2.nodup_iff.1 nd) (hp.mem_iff.1 hx)]
 ·rw[getH_not h,getH_not (fun h'=>h (hp2.mem_iff.2 h'))]
theorem getH_updH {L : List BHeld} (nd : (L.map (·.id)).Nodup) (y : BHeld) (a : Int) : getH (updH L y) a = if a = y.id then y else getH L a := by
 have hp:=updH_perm nd y
 have hsub:∀x,x ∈ L.filter (fun x=>decide (x.id≠y.id))→x ∈ L∧x.id≠y.id:=fun x hx=>by simpa using List.mem_filter.1 hx
 have nd2 : ((y :: L.filter (fun x => decide (x.id ≠ y.id))).map (·.id)).Nodup := by
  rw[List.map_cons,List.nodup_cons]
  refine⟨fun h=>?_,List.Nodup.sublist ((List.filter_sublist).map _) nd⟩
  obtain⟨x,hx,e⟩:=List.mem_map.1 h
  exact(hsub x hx).2 e
 rw[getH_perm nd2 hp.symm]
 split
 ·next e=>subst e;exact getH_mem nd2 (by simp)
 ·next e =>
  by_cases h:a ∈ L.map (·.id)
  ·obtain⟨x,hx,rfl⟩:=List.mem_map.1 h
   rw[getH_mem nd hx]
   exact getH_mem nd2 (List.mem_cons_of_mem _ (List.mem_filter.2 ⟨hx,by simpa using e⟩))
  ·rw[getH_not h]
   refine getH_not (fun h'=>?_)
   simp only[List.map_cons,List.mem_cons]at h'
   rcases h' with h'|h'
   ·exact e h'
   ·obtain⟨x,hx,rfl⟩:=List.mem_map.1 h'
    exact h (List.mem_map_of_mem (hsub x hx).1)
theorem getH_delH {L : List BHeld} (nd : (L.map (·.id)).Nodup) (id a : Int) : getH (delH L id) a = if a = id then ⟨0, [], 0⟩ else getH L a := by
 have hp:=delH_perm nd id
 have hsub:∀x,x ∈ L.filter (fun x=>decide (x.id≠id))→x ∈ L∧x.id≠id:=fun x hx=>by simpa using List.mem_filter.1 hx
 have nd2:((L.filter (fun x=>decide (x.id≠id))).map (·.id)).Nodup:=List.Nodup.sublist ((List.filter_sublist).map _) nd
 rw[getH_perm nd2 hp.symm]
 split
 ·next e =>
  subst e
  refine getH_not (fun h'=>?_)
  obtain⟨x,hx,e⟩:=List.mem_map.1 h'
  exact(hsub x hx).2 e
 ·next e =>
  by_cases h:a ∈ L.map (·.id)
  ·obtain⟨x,hx,rfl⟩:=List.mem_map.1 h
   rw[getH_mem nd hx]
   exact getH_mem nd2 (List.mem_filter.2 ⟨hx,by simpa using e⟩)
  ·rw[getH_not h]
   refine getH_not (fun h'=>?_)
   obtain⟨x,hx,rfl⟩:=List.mem_map.1 h'
   exact h (List.mem_map_of_mem (hsub x hx).1)
def us (L:List BHeld)(a:Int):Int:=(getH L a).uses
def by_ (L:List BHeld)(a:Int):List Int:=(getH L a).bytes
theorem us_nonneg {L:List BHeld}(hV:VH L)(a:Int):0≤us L a:=by
 unfold us
 cases h:(Sp.atH L a).isSome with
 | false=>rw[get_no h];simp
 | true=>have:=(get_ok hV h).2.2.1;omega
theorem us_pos {L:List BHeld}(hV:VH L){a:Int}:0<us L a↔(Sp.atH L a).isSome=true:=by
 unfold us
 cases h:(Sp.atH L a).isSome with
 | false=>rw[get_no h];simp
 | true=>have:=(get_ok hV h).2.2.1;simp;omega
theorem drop_step {L:List BHeld}(hV:VH L){id:Int}(h:0<us L id) :
  ∃L',StoreDrop L id=some L'∧VH L'∧∀a,us L' a=us L a-(if a=id then 1 else 0)∧(0<us L' a→by_ L' a=by_ L a):=by
 have hs:=(us_pos hV).1 h
 have hid:=get_id hs
 by_cases hu:(getH L id).uses=1
 ·obtain⟨h1,h2⟩:=drop_get1 hV hs hu
  refine⟨_,h1,h2,fun a=>?_⟩
  unfold us by_
  rw[getH_delH hV.nd]
  by_cases e:a=id
  ·subst e;simp[hu]
  ·simp[e]
 ·obtain⟨h1,h2⟩:=drop_get2 hV hs hu
  refine⟨_,h1,h2,fun a=>?_⟩
  unfold us by_
  rw[getH_updH hV.nd,←hid]
  by_cases e:a=id
  ·subst e;simp
  ·simp[e]
theorem cnt1_cons (a x : Int) (r : List Int) : cnt1 a (x :: r) = (if a = x then 1 else 0) + cnt1 a r := by
 unfold cnt1
 rw[List.countP_cons]
 by_cases e:a=x
 ·subst e;simp;omega
 ·have:¬x=a:=fun h=>e h.symm
  simp[e,this]
theorem foldB_cons {α β:Type}{f:α→β→Option α}{b:β}{r:List β}{a a':α}(h:f a b=some a'):foldB f (b::r) (some a)=foldB f r (some a'):=by
 simp[foldB,h]
theorem drops:∀(ids:List Int) {L:List BHeld},VH L→(∀a,(cnt1 a ids:Int)≤us L a) →
  ∃L',foldB StoreDrop ids (some L)=some L'∧VH L'∧∀a,us L' a=us L a-(cnt1 a ids:Int)∧(0<us L' a→by_ L' a=by_ L a)
 | [],L,hV,_=>⟨L,rfl,hV,fun a=>by simp[cnt1]⟩
 | x :: r, L, hV, h => by
  have hx:=h x
  rw[cnt1_cons,if_pos rfl]at hx
  obtain⟨L1,h1,h2,h3⟩:=drop_step hV (id:=x) (by push_cast at hx;omega)
  obtain ⟨L2, g1, g2, g3⟩ := drops r h2 (fun a => by
   have h8:=h a
   rw[cnt1_cons]at h8
   have h4:=(h3 a).1
   by_cases e:a=x
   ·rw[if_pos e]at h8 h4;omega
   ·rw[if_neg e]at h8 h4;omega)
  refine⟨L2,by rw[foldB_cons h1];exact g1,g2,fun a=>?_⟩
  have h4:=h3 a
  have h5:=g3 a
  rw[cnt1_cons]
  refine⟨?_,fun hp=>?_⟩
  ·have h8:=h4.1
   have h9:=h5.1
   by_cases e:a=x
   ·rw[if_pos e]at h8 ⊢;omega
   ·rw[if_neg e]at h8 ⊢;omega
  ·rw[h5.2 hp,h4.2 ?_]
   have:=h5.1
   omega
theorem free_ok {L:List BHeld}(hV:VH L){ids:List Int}(hl:l4Ids L ids=true)(h:∀a,(cnt1 a ids:Int)≤us L a) :
  ∃L',FileFree L ids=some L'∧VH L'∧∀a,us L' a=us L a-(cnt1 a ids:Int)∧(0<us L' a→by_ L' a=by_ L a):=by
 obtain⟨L',h1,h2⟩:=drops ids hV h
 exact⟨L',by simp[FileFree,valid_iff.2 hV,hl,h1],h2⟩
theorem keep_step {L : List BHeld} (hV : VH L) {id : Int} {L' : List BHeld} (h : StoreKeep L id = some L') : VH L' ∧ 0 < us L id ∧ ∀ a, us L' a = us L a + (if a = id then 1 else 0) ∧ by_ L' a = by_ L a := by
 have hs:(Sp.atH L id).isSome=true:=by
  cases e:(Sp.atH L id).isSome with
  | true=>rfl
  | false=>rw[keep_no hV (.inl e)]at h;cases h
 have hu:(getH L id).uses<999:=by
  by_cases h1:(getH L id).uses<999
  ·exact h1
  ·rw[keep_no hV (.inr (by omega))]at h;cases h
 obtain⟨h1,h2⟩:=keep_get hV hs hu
 rw[h1]at h
 cases h
 have hid:=get_id hs
 refine⟨h2,(us_pos hV).2 hs,fun a=>?_⟩
 unfold us by_
 rw[getH_updH hV.nd,←hid]
 by_cases e:a=id
 ·subst e;simp
 ·simp[e]
theorem put_step {L:List BHeld}(hV:VH L){b:List Int}(hb:BlockValid b=true){L':List BHeld}{id:Int}(h:StorePut L b=some (L',id)) :
  VH L'∧(∀a,us L' a=us L a+(if a=id then 1 else 0)∧(0<us L a→by_ L' a=by_ L a))∧by_ L' id=b:=by
 cases e:like L b with
 | none =>
  by_cases hl:L.length<16
  ·rw[put_new hV hb e hl]at h
   simp only[Option.some.injEq,Prod.mk.injEq]at h
   obtain⟨rfl,rfl⟩:=h
   have hw:=with_valid hV hb e hl
   have hf:=(free_lt L).1
   obtain⟨k,hk⟩:∃k,freeId L=k+1:=⟨freeId L-1,by omega⟩
   have hp:=put_perm (L:=L) b hk
   have hfi:(freeId L:Int)=(k:Int)+1:=by omega
   have hg : ∀ a, getH (l3With L b) a = if a = (freeId L : Int) then ⟨(k : Int) + 1, b, 1⟩ else getH L a := fun a => by
    have hnd:((updH L ⟨(k:Int)+1,b,1⟩).map (·.id)).Nodup:=(hp.map (·.id)).nodup_iff.2 hw.nd
    rw[getH_perm hnd hp,getH_updH hV.nd,hfi]
   have h0:getH L (freeId L:Int)=⟨0,[],0⟩:=getH_none (free_none L)
   refine⟨hw,fun a=>?_,?_⟩
   ·unfold us by_
    rw[hg]
    by_cases ea:a=(freeId L:Int)
    ·subst ea;simp[h0]
    ·simp[ea]
   ·unfold by_
    rw[hg,if_pos rfl]
  ·rw[put_full e (by omega)]at h;cases h
 | some i =>
  obtain⟨hi,hp,_⟩:=List.findIdx?_eq_some_iff_getElem.1 e
  have hx:L[i]? = some L[i]:=List.getElem?_eq_getElem hi
  rw[put_old hV hb e hx]at h
  obtain⟨l,h1,h2⟩:=Option.map_eq_some_iff.1 h
  simp only[Prod.mk.injEq]at h2
  obtain⟨rfl,rfl⟩:=h2
  obtain⟨k1,k2,k3⟩:=keep_step hV h1
  refine⟨k1,fun a=>⟨(k3 a).1,fun _=>(k3 a).2⟩,?_⟩
  rw[(k3 _).2]
  unfold by_
  rw[getH_mem hV.nd (List.getElem_mem hi)]
  simpa [l2Same] using hp
theorem puts:∀(bs:List (List Int)) {L:List BHeld} {acc:List Int} {s:List BHeld} {ids:List Int},VH L→(∀b,b ∈ bs→BlockValid b=true)→foldB put1 bs (some (L,acc))=some (s,ids) →
  VH s∧∃new,ids=acc++new∧new.length=bs.length∧(∀a,us s a=us L a+(cnt1 a new:Int)∧(0<us L a→by_ s a=by_ L a))∧∀(i:Nat) (id:Int),new[i]? = some id→some (by_ s id)=bs[i]?
 | [], L, acc, s, ids, hV, _, h => by
  simp only[foldB,List.foldl_nil,Option.some.injEq,Prod.mk.injEq]at h
  obtain⟨rfl,rfl⟩:=h
  exact⟨hV,[],by simp,rfl,fun a=>by simp[cnt1],by simp⟩
 | b :: r, L, acc, s, ids, hV, hb, h => by
  cases e:StorePut L b with
  | none =>
   have:foldB put1 (b::r) (some (L,acc))=foldB put1 r none:=by simp[foldB,put1,e]
   rw[this,foldB_none]at h
   cases h
  | some q =>
   obtain⟨L1,id⟩:=q
   rw[foldB_cons (a':=(L1,acc++[id])) (by simp[put1,e])]at h
   obtain⟨k1,k2,k3⟩:=put_step hV (hb b (by simp)) e
   obtain⟨g1,new,g2,g3,g4,g5⟩:=puts r k1 (fun c hc=>hb c (by simp[hc])) h
   refine⟨g1,id::new,by rw[g2];simp,by simp[g3],fun a=>?_,fun i z hz=>?_⟩
   ·rw[cnt1_cons]
    have h8:=(k2 a).1
    have h9:=(g4 a).1
    have hn:=us_nonneg hV a
    refine⟨?_,fun hp=>?_⟩
    ·by_cases ea:a=id
     ·rw[if_pos ea]at h8 ⊢;omega
     ·rw[if_neg ea]at h8 ⊢;omega
    ·have h7 : us L a ≤ us L1 a := by
      by_cases ea:a=id
      ·rw[if_pos ea]at h8;omega
      ·rw[if_neg ea]at h8;omega
     rw[(g4 a).2 (by omega),(k2 a).2 hp]
   ·cases i with
    | zero =>
     simp only[List.getElem?_cons_zero,Option.some.injEq]at hz
     subst hz
     have h8:=(k2 id).1
     rw[if_pos rfl]at h8
     have hn:=us_nonneg hV id
     rw[(g4 id).2 (by omega),k3]
     rfl
    | succ i =>
     simp only[List.getElem?_cons_succ]at hz ⊢
     exact g5 i z hz
theorem chunks_valid {b:List Int}(h:FileValid b=true):∀c,c ∈ l4Cut b→BlockValid c=true:=by
 intro c hc
 unfold l4Cut at hc
 obtain⟨k,hk,rfl⟩:=List.mem_map.1 hc
 refine chunk_valid h ?_
 rw[chunk_len]
 have:=List.mem_range.1 hk
 omega
theorem store_ok {L:List BHeld}(hV:VH L){b:List Int}{s:List BHeld}{ids:List Int}(h:FileStore L b=some (s,ids)) :
  VH s∧ids.length=(l4Cut b).length∧(∀a,us s a=us L a+(cnt1 a ids:Int)∧(0<us L a→by_ s a=by_ L a))∧∀(i:Nat) (id:Int),ids[i]? = some id→some (by_ s id)=(l4Cut b)[i]? := by
 unfold FileStore at h
 split at h
 ·rename_i hc
  simp only[Bool.and_eq_true]at hc
  obtain⟨g1,new,g2,g3,g4,g5⟩:=puts (l4Cut b) hV (chunks_valid hc.2) h
  rw[List.nil_append]at g2
  subst g2
  exact⟨g1,g3,g4,g5⟩
 ·cases h
theorem ids_stay {L s:List BHeld}(hV:VH L)(hs:VH s)(h:∀a,0<us L a→0<us s a∧by_ s a=by_ L a){ids:List Int}(hl:l4Ids L ids=true):l4Ids s ids=true:=by
 refine ids_true (fun j hj=>?_) (ids_le hl)
 have hz:ids[j]? = some ids[j]:=List.getElem?_eq_getElem hj
 have h1:idsOk L ids j=true:=by
  simp only[l4Ids,Bool.and_eq_true]at hl
  exact List.all_eq_true.1 hl.1 j (by simpa using hj)
 have hp:(Sp.atH L ids[j]).isSome=true:=by
  cases e:(Sp.atH L ids[j]).isSome with
  | true=>rfl
  | false=>rw[idsOk_no hz e]at h1;cases h1
 have h2:=h _ ((us_pos hV).2 hp)
 rw[idsOk_get hz ((us_pos hs).1 h2.1)]
 rw[idsOk_get hz hp]at h1
 have h3:(getH s ids[j]).bytes=(getH L ids[j]).bytes:=h2.2
 rw[h3]
 exact h1
theorem ids_in {L:List BHeld}(hV:VH L){ids:List Int}(hl:l4Ids L ids=true){a:Int}(ha:a ∈ ids):0<us L a:=by
 obtain⟨j,hz⟩:=List.getElem?_of_mem ha
 have hj:=(List.getElem?_eq_some_iff.1 hz).1
 have h1:idsOk L ids j=true:=by
  simp only[l4Ids,Bool.and_eq_true]at hl
  exact List.all_eq_true.1 hl.1 j (by simpa using hj)
 refine(us_pos hV).2 ?_
 cases e:(Sp.atH L a).isSome with
 | true=>rfl
 | false=>rw[idsOk_no hz e]at h1;cases h1
theorem cnt1_pos {a:Int}{ids:List Int}:0<cnt1 a ids↔a ∈ ids:=by
 unfold cnt1
 rw[List.countP_pos_iff]
 constructor
 ·rintro⟨x,hx,e⟩
  have:x=a:=by simpa using e
  exact this▸hx
 ·intro h
  exact⟨a,h,by simp⟩
end Sp
