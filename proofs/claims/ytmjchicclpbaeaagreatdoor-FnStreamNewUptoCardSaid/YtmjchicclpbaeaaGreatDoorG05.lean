/- Part 5 of the proof: the program logic and plain functions. Conditions: none. -/
import Derived.Shelf.SlGeneric
import Derived.Shelf.Strings.Search1
import Derived.Shelf.Strings.Search2
import Derived.Shelf.Strings.Count
import Derived.Shelf.SlIterI.Nil
import Derived.Shelf.SortM.Plain
import Derived.Shelf.SortM.SortNone
import Derived.Ground.GgzProg
import Derived.Ground.SlgmProg
import Derived.Test.YtmjchicclpbaeaaGreatDoorProg
import Derived.Test.YtmjchicclpbaeaaGreatDoorG03
import Derived.Test.YtmjchicclpbaeaaGreatDoorG04
import Derived.Test.YtmjchicclpbaeaaGreatDoorG02
import Derived.Conc.MuLone
import Derived.KernelRfl
set_option linter.all false
set_option maxRecDepth 100000
set_option maxHeartbeats 8000000
namespace Go.Proofs
open Go.Shelf
def Tryz.keysA_ren:Go.Shelf.Ren:=⟨fun|7=>107|10=>142|n=>n,fun|23=>96|26=>3|3=>134|28=>170|0=>0|27=>169|33=>193|4=>4|n=>n,fun|n=>n⟩
theorem Tryz.keysA:Go.Proofs.SlLaysZI.n7 Tryz.prog Tryz.keysA_ren:={
 mixed:=by kernel_rfl
 f7:=⟨Tryz.f107.name,by decide,Tryz.func107.trans (congrArg some (by kernel_rfl))⟩
 f10:=⟨Tryz.f142.name,by decide,Tryz.func142.trans (congrArg some (by kernel_rfl))⟩
 t0:=Tryz.underlying0
 a0:=Tryz.isAgg0
 z0:=Tryz.sizeOf0
 v0:=Tryz.zeroValue0
 t4:=Tryz.underlying4
 a4:=Tryz.isAgg4
 z4:=Tryz.sizeOf4
 v4:=Tryz.zeroValue4
 t23:=Tryz.underlying96
 a23:=Tryz.isAgg96
 z23:=Tryz.sizeOf96
 v23:=Tryz.zeroValue96
 t26:=Tryz.underlying3
 a26:=Tryz.isAgg3
 z26:=Tryz.sizeOf3
 v26:=Tryz.zeroValue3
 t27:=Tryz.underlying169
 a27:=Tryz.isAgg169
 z27:=Tryz.sizeOf169
 v27:=Tryz.zeroValue169
 t28:=Tryz.underlying170
 a28:=Tryz.isAgg170
 z28:=Tryz.sizeOf170
 v28:=Tryz.zeroValue170
 t33:=Tryz.underlying193
 a33:=Tryz.isAgg193
 z33:=Tryz.sizeOf193
 v33:=Tryz.zeroValue193}
def Tryz.sortedA_ren:Go.Shelf.Ren:=⟨fun|6=>106|8=>140|9=>141|11=>172|13=>174|12=>173|23=>192|24=>193|14=>183|15=>184|16=>185|17=>186|18=>187|19=>188|20=>189|21=>190|22=>191|25=>199|26=>200|27=>201|28=>202|29=>203|30=>204|31=>208|n=>n,fun|26=>3|28=>170|24=>56|0=>0|3=>3|37=>211|48=>104|50=>244|4=>4|40=>236|39=>235|45=>180|5=>5|9=>9|51=>250|55=>254|57=>257|58=>258|33=>193|n=>n,fun|n=>n⟩
theorem Tryz.sortedA:Go.Proofs.SlLaysZI.n6 Tryz.prog Tryz.sortedA_ren:={
 mixed:=by kernel_rfl
 f6:=⟨Tryz.f106.name,by decide,Tryz.func106.trans (congrArg some (by kernel_rfl))⟩
 f8:=⟨Tryz.f140.name,by decide,Tryz.func140.trans (congrArg some (by kernel_rfl))⟩
 f11:=⟨Tryz.f172.name,by decide,Tryz.func172.trans (congrArg some (by kernel_rfl))⟩
 t0:=Tryz.underlying0
 a0:=Tryz.isAgg0
 z0:=Tryz.sizeOf0
 v0:=Tryz.zeroValue0
 t24:=Tryz.underlying56
 a24:=Tryz.isAgg56
 z24:=Tryz.sizeOf56
 v24:=Tryz.zeroValue56
 t26:=Tryz.underlying3
 a26:=Tryz.isAgg3
 z26:=Tryz.sizeOf3
 v26:=Tryz.zeroValue3
 t28:=Tryz.underlying170
 a28:=Tryz.isAgg170
 z28:=Tryz.sizeOf170
 v28:=Tryz.zeroValue170
 i26:=by kernel_rfl}
def Tryz.sortA_ren:Go.Shelf.Ren:=⟨fun|5=>141|8=>174|7=>173|19=>192|20=>193|10=>183|11=>184|12=>185|13=>186|14=>187|15=>188|16=>189|17=>190|18=>191|30=>199|31=>200|32=>201|33=>202|34=>203|35=>204|40=>208|n=>n,fun|23=>56|25=>3|3=>3|32=>211|22=>56|0=>0|44=>104|46=>244|4=>4|36=>236|35=>235|41=>180|5=>5|9=>9|53=>250|57=>254|63=>257|64=>258|n=>n,fun|n=>n⟩
theorem Tryz.sortA:Go.Proofs.SlLaysM.n5 Tryz.prog Tryz.sortA_ren:={
 mixed:=by kernel_rfl
 f5:=⟨Tryz.f141.name,by decide,Tryz.func141.trans (congrArg some (by kernel_rfl))⟩
 f7:=⟨Tryz.f173.name,by decide,Tryz.func173.trans (congrArg some (by kernel_rfl))⟩
 f8:=Tryz.func174.trans (congrArg some (by kernel_rfl))
 f10:=⟨Tryz.f183.name,by decide,Tryz.func183.trans (congrArg some (by kernel_rfl))⟩
 f11:=⟨Tryz.f184.name,by decide,Tryz.func184.trans (congrArg some (by kernel_rfl))⟩
 f12:=⟨Tryz.f185.name,by decide,Tryz.func185.trans (congrArg some (by kernel_rfl))⟩
 f13:=⟨Tryz.f186.name,by decide,Tryz.func186.trans (congrArg some (by kernel_rfl))⟩
 f14:=⟨Tryz.f187.name,by decide,Tryz.func187.trans (congrArg some (by kernel_rfl))⟩
 f15:=⟨Tryz.f188.name,by decide,Tryz.func188.trans (congrArg some (by kernel_rfl))⟩
 f16:=⟨Tryz.f189.name,by decide,Tryz.func189.trans (congrArg some (by kernel_rfl))⟩
 f17:=⟨Tryz.f190.name,by decide,Tryz.func190.trans (congrArg some (by kernel_rfl))⟩
 f18:=⟨Tryz.f191.name,by decide,Tryz.func191.trans (congrArg some (by kernel_rfl))⟩
 f19:=Tryz.func192.trans (congrArg some (by kernel_rfl))
 f20:=Tryz.func193.trans (congrArg some (by kernel_rfl))
 f30:=⟨Tryz.f199.name,by decide,Tryz.func199.trans (congrArg some (by kernel_rfl))⟩
 f31:=Tryz.func200.trans (congrArg some (by kernel_rfl))
 f32:=Tryz.func201.trans (congrArg some (by kernel_rfl))
 f33:=⟨Tryz.f202.name,by decide,Tryz.func202.trans (congrArg some (by kernel_rfl))⟩
 f34:=⟨Tryz.f203.name,by decide,Tryz.func203.trans (congrArg some (by kernel_rfl))⟩
 f35:=⟨Tryz.f204.name,by decide,Tryz.func204.trans (congrArg some (by kernel_rfl))⟩
 f40:=⟨Tryz.f208.name,by decide,Tryz.func208.trans (congrArg some (by kernel_rfl))⟩
 t0:=Tryz.underlying0
 a0:=Tryz.isAgg0
 z0:=Tryz.sizeOf0
 v0:=Tryz.zeroValue0
 t3:=Tryz.underlying3
 a3:=Tryz.isAgg3
 z3:=Tryz.sizeOf3
 v3:=Tryz.zeroValue3
 t4:=Tryz.underlying4
 a4:=Tryz.isAgg4
 z4:=Tryz.sizeOf4
 v4:=Tryz.zeroValue4
 t5:=Tryz.underlying5
 a5:=Tryz.isAgg5
 z5:=Tryz.sizeOf5
 v5:=Tryz.zeroValue5
 t9:=Tryz.underlying9
 a9:=Tryz.isAgg9
 z9:=Tryz.sizeOf9
 v9:=Tryz.zeroValue9
 t22:=Tryz.underlying56
 a22:=Tryz.isAgg56
 z22:=Tryz.sizeOf56
 v22:=Tryz.zeroValue56
 t23:=Tryz.underlying56
 a23:=Tryz.isAgg56
 z23:=Tryz.sizeOf56
 v23:=Tryz.zeroValue56
 t25:=Tryz.underlying3
 a25:=Tryz.isAgg3
 z25:=Tryz.sizeOf3
 v25:=Tryz.zeroValue3
 t32:=Tryz.underlying211
 a32:=Tryz.isAgg211
 z32:=Tryz.sizeOf211
 v32:=Tryz.zeroValue211
 t35:=Tryz.underlying235
 a35:=Tryz.isAgg235
 z35:=Tryz.sizeOf235
 v35:=Tryz.zeroValue235
 t36:=Tryz.underlying236
 a36:=Tryz.isAgg236
 z36:=Tryz.sizeOf236
 v36:=Tryz.zeroValue236
 t41:=Tryz.underlying180
 a41:=Tryz.isAgg180
 z41:=Tryz.sizeOf180
 v41:=Tryz.zeroValue180
 t44:=Tryz.underlying104
 a44:=Tryz.isAgg104
 z44:=Tryz.sizeOf104
 v44:=Tryz.zeroValue104
 t46:=Tryz.underlying244
 a46:=Tryz.isAgg244
 z46:=Tryz.sizeOf244
 v46:=Tryz.zeroValue244
 t53:=Tryz.underlying250
 a53:=Tryz.isAgg250
 z53:=Tryz.sizeOf250
 v53:=Tryz.zeroValue250
 t57:=Tryz.underlying254
 a57:=Tryz.isAgg254
 z57:=Tryz.sizeOf254
 v57:=Tryz.zeroValue254
 t63:=Tryz.underlying257
 a63:=Tryz.isAgg257
 z63:=Tryz.sizeOf257
 v63:=Tryz.zeroValue257
 t64:=Tryz.underlying258
 a64:=Tryz.isAgg258
 z64:=Tryz.sizeOf258
 v64:=Tryz.zeroValue258}
def Tryz.lays143_ren:Go.Shelf.Ren:=⟨fun|143=>207|219=>212|217=>214|225=>215|224=>216|267=>217|266=>218|314=>219|n=>n,fun|9=>9|3=>3|4=>4|5=>5|46=>211|146=>267|51=>104|n=>n,fun|1=>0|n=>n⟩
theorem Tryz.lays143:Go.Proofs.Lays.n143 Tryz.prog Tryz.lays143_ren:={
 mixed:=by kernel_rfl
 f143:=Tryz.func207.trans (congrArg some (by kernel_rfl))
 f217:=Tryz.func214.trans (congrArg some (by kernel_rfl))
 f219:=Tryz.func212.trans (congrArg some (by kernel_rfl))
 f224:=Tryz.func216.trans (congrArg some (by kernel_rfl))
 f225:=Tryz.func215.trans (congrArg some (by kernel_rfl))
 f266:=Tryz.func218.trans (congrArg some (by kernel_rfl))
 f267:=Tryz.func217.trans (congrArg some (by kernel_rfl))
 f314:=Tryz.func219.trans (congrArg some (by kernel_rfl))
 t3:=Tryz.underlying3
 a3:=Tryz.isAgg3
 z3:=Tryz.sizeOf3
 v3:=Tryz.zeroValue3
 t4:=Tryz.underlying4
 a4:=Tryz.isAgg4
 z4:=Tryz.sizeOf4
 v4:=Tryz.zeroValue4
 t5:=Tryz.underlying5
 a5:=Tryz.isAgg5
 z5:=Tryz.sizeOf5
 v5:=Tryz.zeroValue5
 t9:=Tryz.underlying9
 a9:=Tryz.isAgg9
 z9:=Tryz.sizeOf9
 v9:=Tryz.zeroValue9
 t46:=Tryz.underlying211
 a46:=Tryz.isAgg211
 z46:=Tryz.sizeOf211
 v46:=Tryz.zeroValue211
 t51:=Tryz.underlying104
 a51:=Tryz.isAgg104
 z51:=Tryz.sizeOf104
 v51:=Tryz.zeroValue104
 t146:=Tryz.underlying267
 a146:=Tryz.isAgg267
 z146:=Tryz.sizeOf267
 v146:=Tryz.zeroValue267
 g1:=by kernel_rfl}
def Tryz.lays138_ren:Go.Shelf.Ren:=⟨fun|138=>206|195=>209|218=>211|143=>207|219=>212|217=>214|225=>215|224=>216|267=>217|266=>218|314=>219|n=>n,fun|9=>9|3=>3|4=>4|5=>5|0=>0|46=>211|146=>267|51=>104|n=>n,fun|1=>0|n=>n⟩
theorem Tryz.lays138:Go.Proofs.Lays.n138 Tryz.prog Tryz.lays138_ren:={
 mixed:=by kernel_rfl
 f138:=Tryz.func206.trans (congrArg some (by kernel_rfl))
 f143:=Tryz.func207.trans (congrArg some (by kernel_rfl))
 f195:=Tryz.func209.trans (congrArg some (by kernel_rfl))
 f217:=Tryz.func214.trans (congrArg some (by kernel_rfl))
 f218:=Tryz.func211.trans (congrArg some (by kernel_rfl))
 f219:=Tryz.func212.trans (congrArg some (by kernel_rfl))
 f224:=Tryz.func216.trans (congrArg some (by kernel_rfl))
 f225:=Tryz.func215.trans (congrArg some (by kernel_rfl))
 f266:=Tryz.func218.trans (congrArg some (by kernel_rfl))
 f267:=Tryz.func217.trans (congrArg some (by kernel_rfl))
 f314:=Tryz.func219.trans (congrArg some (by kernel_rfl))
 t0:=Tryz.underlying0
 a0:=Tryz.isAgg0
 z0:=Tryz.sizeOf0
 v0:=Tryz.zeroValue0
 t3:=Tryz.underlying3
 a3:=Tryz.isAgg3
 z3:=Tryz.sizeOf3
 v3:=Tryz.zeroValue3
 t4:=Tryz.underlying4
 a4:=Tryz.isAgg4
 z4:=Tryz.sizeOf4
 v4:=Tryz.zeroValue4
 t5:=Tryz.underlying5
 a5:=Tryz.isAgg5
 z5:=Tryz.sizeOf5
 v5:=Tryz.zeroValue5
 t9:=Tryz.underlying9
 a9:=Tryz.isAgg9
 z9:=Tryz.sizeOf9
 v9:=Tryz.zeroValue9
 t46:=Tryz.underlying211
 a46:=Tryz.isAgg211
 z46:=Tryz.sizeOf211
 v46:=Tryz.zeroValue211
 t51:=Tryz.underlying104
 a51:=Tryz.isAgg104
 z51:=Tryz.sizeOf104
 v51:=Tryz.zeroValue104
 t146:=Tryz.underlying267
 a146:=Tryz.isAgg267
 z146:=Tryz.sizeOf267
 v146:=Tryz.zeroValue267
 g1:=by kernel_rfl}
end Go.Proofs
namespace Fw
open Go Go.RowKit Go.Maps Go.Sort Go.Shelf Go.Proofs
open Go.WideElems (Fit rg)
def unitR:Value→Option (DataW Unit×List MemPlace):=fun _=>some (.agg [],[])
theorem owns_of {P:Program}{k:TypeId}{w:World}{b:Nat}{es:Array MapEntry}{clock:Nat}{xs:List (Int×Value)}(hk:P.underlying k=some (.int .i64))(hb:w.heap[b]? = some (.map es clock))(hm:MapIs (Value.int .i64) es clock xs)(hw:∀x,x ∈ xs→inI x.1)(hl:xs.length≤1000000) :
  ∃D:DataW Unit,w.ownsMap P k unitR b xs.length D∧(intKeys D).Perm (xs.map (·.1))∧Maps.size D=xs.length:=by
 have hsz:es.size=xs.length:=by have:=congrArg List.length hm.kv;simpa using this
 have hkey:∀x,x ∈ es.toList→∃y,y ∈ xs∧x.key= .int .i64 y.1:=by
  intro x hx
  have:(x.key,x.val) ∈ xs.map (fun y=>(Value.int .i64 y.1,y.2)):=by rw[←hm.kv];exact List.mem_map.2 ⟨x,hx,rfl⟩
  obtain⟨y,h1,h2⟩:=List.mem_map.1 this
  simp only[Prod.mk.injEq]at h2
  exact⟨y,h1,h2.1.symm⟩
 have hwf:∀a:Int,inI a→(Lit.int .i64 a).wf=true:=by
  intro a ha
  unfold inI at ha
  have h1:IntKind.i64.min= -9223372036854775808:=by decide
  have h2:IntKind.i64.max=9223372036854775807:=by decide
  simp only[Lit.wf,h1,h2]
  simp
  omega
 have hrd:∀x,x ∈ es.toList→∃y,y ∈ xs∧x.key= .int .i64 y.1∧Go.WideElems.rd P k unitR x=some (.int .i64 y.1,.agg []):=by
  intro x hx
  obtain⟨y,h1,h2⟩:=hkey x hx
  refine⟨y,h1,h2,?_⟩
  simp only[Go.WideElems.rd,h2,keyOf_int_mk hk (hwf _ (hw y h1)),unitR]
  rfl
 refine⟨.map ((es.toList.map (rg P k unitR)).foldr DataW.insert []),⟨es,clock,hb,⟨?_,⟨hm.lt,hm.born,?_⟩,?_⟩,by omega,rfl⟩,?_,?_⟩
 ·simp only[maxLen];omega
 ·have h1 : es.toList.map (·.key) = xs.map (fun x => Value.int .i64 x.1) := by
   have:=congrArg (List.map (·.1)) hm.kv
   rw[List.map_map,List.map_map]at this
   exact this
  rw[h1]
  have:(xs.map (fun x=>Value.int .i64 x.1))=(xs.map (·.1)).map (Value.int .i64):=by simp[List.map_map]
  rw[this,List.nodup_iff_pairwise_ne,List.pairwise_map]
  exact(List.nodup_iff_pairwise_ne.1 hm.nd).imp (fun h e=>h (by simpa using e))
 ·intro x hx
  obtain⟨y,_,_,h3⟩:=hrd x hx
  exact⟨_,h3⟩
 ·have hp:=(WideShapes.sorted_perm (es.toList.map (rg P k unitR))).map (fun p:Lit×DataW Unit=>intOf p.1)
  show List.Perm (List.map (fun p:Lit×DataW Unit=>intOf p.1) _) _
  refine hp.trans ?_
  rw[List.map_map]
  have key : ∀ (l : List MapEntry) (ys : List (Int × Value)), (∀ x, x ∈ l → ∃ y, y ∈ xs ∧ x.key = .int .i64 y.1 ∧ Go.WideElems.rd P k unitR x = some (.int .i64 y.1, .agg [])) → l.map (fun e => (e.key, e.val)) = ys.map (fun x => (Value.int .i64 x.1, x.2)) → l.map ((fun p : Lit × DataW Unit => intOf p.1) ∘ rg P k unitR) = ys.map (·.1) := by
   intro l
   induction l with
   | nil=>intro ys _ h;cases ys<;>simp at h ⊢
   | cons x r ih =>
    intro ys h1 h2
    cases ys with
    | nil=>simp at h2
    | cons y t =>
     simp only[List.map_cons,List.cons.injEq,Prod.mk.injEq]at h2 ⊢
     obtain⟨z,_,h3,h4⟩:=h1 x (by simp)
     rw[h2.1.1]at h3
     simp only[Value.int.injEq,true_and]at h3
     refine⟨?_,ih t (fun q hq=>h1 q (by simp[hq])) h2.2⟩
     simp only[Function.comp,rg,h4,Option.getD_some,Go.intOf]
     exact h3.symm
  rw[key es.toList xs hrd hm.kv]
 ·simp only[Maps.size]
  rw[length_sorted]
  simp[hsz]
theorem sorts_of {G : PH} {xs : List (Int × Value)} {L : List BHeld} (hS : StR G xs L) (hL : Sp.VH L) {ss : List Int} (hp : ss.Perm (xs.map (·.1))) : ss.mergeSort (fun x y => decide (x ≤ y)) = L.map (·.id) := by
 have h1:(ss.mergeSort (fun x y=>decide (x≤y))).Perm (L.map (·.id)):=(List.mergeSort_perm _ _).trans (hp.trans hS.keys)
 have h2:(ss.mergeSort (fun x y=>decide (x≤y))).Pairwise (fun x y=>decide (x≤y)=true):=List.pairwise_mergeSort (le:=fun x y:Int=>decide (x≤y)) (fun a b c h1 h2=>by simp at *; omega) (fun a b=>by simp;omega) ss
 have h3 : (L.map (·.id)).Pairwise (fun x y => decide (x ≤ y) = true) := by
  rw[List.pairwise_map]
  exact hL.asc.imp (fun h=>decide_eq_true (by omega))
 exact h1.eq_of_pairwise (fun a b _ _ h1 h2=>by have:=of_decide_eq_true h1;have:=of_decide_eq_true h2;omega) h2 h3
theorem owns_acc {w w' : World} {e : TypeId} {v : Value} {n : Nat} {cells : List Value} (h : w'.ownsRow w.heap.size e 1 v n cells) : (acc e 1 v n cells).pred (fun b => w'.heap[b]?) ∧ (∀ b, b ∈ (acc e 1 v n cells).fp → w.heap.size ≤ b) := by
 obtain⟨h1,h2⟩:=h
 refine⟨⟨h1,?_⟩,?_⟩
 ·rcases h2 with h2|⟨g,cap,cur,rfl,_,h3,h4,h5,h6,h7⟩
  ·exact .inl h2
  ·exact .inr ⟨g,cap,cur,rfl,h3,h4,h5,Nat.le_of_eq h6.symm,h7⟩
 ·rcases h2 with ⟨rfl,_⟩|⟨g,cap,cur,rfl,h3,_⟩
  ·intro b hb;rw[acc_fp_nil]at hb;cases hb
  ·intro b hb;rw[acc_fp,List.mem_singleton]at hb;rw[hb];exact h3
end Fw
namespace Go.Proofs.Tst
open Go Fw Go.Proofs Go.Sort Go.Maps Go.Shelf Go.RowKit Tryz
theorem sorts (m:Nat):AnyZI.SortsIn Tryz.prog Tryz.sortedA_ren Fence.wide m :=
  ⟨fun blk off cap ss W hH hblk hsz => callsIn_wide.2 (AnyM.slices_Sort_int Tryz.sortA blk off cap ss W hH hblk hsz),
   fun p cap W=>callsIn_wide.2 (AnyM.slices_Sort_int_none Tryz.sortA p cap W)⟩
theorem keys_c (w0 : World) (G0 : PH) (hG : PSub G0 w0) (b : Nat) : Calls Tryz.prog 107 #[.map (some b)] w0 (fun e w' => ∃ kb, e = .returned (.func (.func 142) #[] #[.pointer (some ⟨kb, 0, none⟩)]) ∧ w0.heap.size ≤ kb ∧ Ext w0 w' ∧ w'.heap[kb]? = some (cl [.map (some b)] 96)) :=
  (callsIn_wide.1 (AnyZI.keys_in Tryz.keysA Fence.wide 5 trivial rfl (some b) w0)).mono fun e w' ⟨h1, h2⟩ => by
    subst h2
    exact⟨w0.heap.size,h1,Nat.le_refl _,Ext.alloc _ _,alloc_new _ _⟩
set_option maxHeartbeats 1000000 in
theorem sorted_c (w0:World)(Bm b:Nat){es:Array MapEntry}{clock:Nat}{xs:List (Int×Value)}{L:List BHeld}{G:PH}(hB:w0.heap[Bm]? = some (cl [.map (some b)] 96))(hb:w0.heap[b]? = some (.map es clock))(hm:MapIs (Value.int .i64) es clock xs)(hS:StR G xs L)(hL:Sp.VH L) :
    Calls Tryz.prog 106 #[.func (.func 142) #[] #[.pointer (some ⟨Bm,0,none⟩)]] w0 (fun e w'=>∃v,e= .returned v∧Ext w0 w'∧(acc 3 1 v L.length (L.map (fun h=>Value.int .i64 h.id))).pred (fun b=>w'.heap[b]?)∧(∀b,b ∈ (acc 3 1 v L.length (L.map (fun h=>Value.int .i64 h.id))).fp→w0.heap.size≤b)):=by
  have hlen:=hS.len
  have hw:∀x,x ∈ xs→inI x.1:=by
    intro x hx
    have:=hS.keys.mem_iff.1 (List.mem_map.2 ⟨x,hx,rfl⟩)
    obtain⟨h,hh,e⟩:=List.mem_map.1 this
    have:=(hL.ok h hh).1
    rw[←e]
    unfold inI
    omega
  have hl16:=hL.len
  obtain⟨D,hown,hp,hsz⟩:=owns_of (P:=Tryz.prog) (k:=3) (by exact underlying3) hb hm hw oM
  have hBl:=(Array.getElem?_eq_some_iff.1 hB).1
  have hseq : SeqGives Fence.wide 2 Tryz.prog 142 #[.pointer (some ⟨Bm, 0, none⟩)] encZ (fun ss => ss.Perm (intKeys D)) (Maps.size D) w0 :=
    AnyZI.keys_gives (ρ:=Tryz.keysA_ren) {Tryz.keysA with} Fence.wide _ trivial rfl oM Bm b xs.length D w0 hBl (by simp[World.cell?,hB]) hown
  refine(callsIn_wide.1 (AnyZI.sorted_in Tryz.sortedA Fence.wide 5 trivial trivial trivial trivial Z oM (sorts _) (enters_of func141 kR Z) 142 #[.pointer (some ⟨Bm,0,none⟩)] trivial (enters_of func142 kR Z) _ _ (by simp only[maxLen];omega) oM _ hseq)).mono ?_
  rintro e w' ⟨v,ss,rfl,hS1,hrow,hnil,hbel⟩
  have hs:=sorts_of hS hL (hS1.trans hp)
  have hn:ss.length=L.length:=by have:=(hS1.trans (hp.trans hS.keys)).length_eq;simpa using this
  rw[hs,hn]at hrow
  have he:(L.map (·.id)).map encZ=L.map (fun h=>Value.int .i64 h.id):=by rw[List.map_map];rfl
  rw[he]at hrow
  obtain⟨h1,h2⟩:=owns_acc hrow
  exact⟨v,Z,Ext.of_below hbel,h1,h2⟩
end Go.Proofs.Tst
namespace Go.Proofs.Tst
open Go Fw Go.Proofs
theorem l_Index_c (w0:World)(s:Bs)(hs:s.length≤16777216)(c:UInt8):Calls Tryz.prog 207 #[str s,str [c]] w0 (Rets w0 (.int .i64 (Sp.optI (s.findIdx? (Sp.isC c))))) :=
  (Any.strings_Index_one Tryz.lays143 ⟨s.toArray⟩ c w0).mono fun e w' ⟨h1,h2⟩=>⟨by rw[h1];simp[Sp.indexByte_eq],by rw[h2];exact Ext.refl _⟩
theorem l_Count_c (w0:World)(s:Bs)(hs:s.length≤16777216)(c:UInt8):Calls Tryz.prog 206 #[str s,str [c]] w0 (Rets w0 (.int .i64 (s.count c:Int))) :=
  (Any.strings_Count_one Tryz.lays138 ⟨s.toArray⟩ c w0).mono fun e w' ⟨h1,h2⟩=>⟨by rw[h1];simp[Lib.countByte],by rw[h2];exact Ext.refl _⟩
theorem chkIds (G : PH) {L : List BHeld} (h : Sp.VH L) : Chk intE 1 G (L.map (fun h => Value.int .i64 h.id)) (L.map (·.id)) := by
  refine⟨L.map (fun h=>[Value.int .i64 h.id]),?_,by simp,fun i x hx=>?_⟩
  · clear h
    induction L with
    | nil=>rfl
    | cons a r ih=>simp only[List.map_cons,List.flatten_cons,←ih];rfl
  rw[List.getElem?_map]at hx ⊢
  cases e:L[i]? with
  | none=>simp[e]at hx
  | some y =>
    simp only[e,Option.map_some,Option.some.injEq]at hx ⊢
    subst hx
    have:=(h.at e).1
    exact⟨_,rfl,rfl,rfl,by unfold inI;omega⟩
end Go.Proofs.Tst
namespace Go.Proofs.Tst
open Go Fw Tryz
theorem l_genSplit_c (w0:World)(G0:PH)(hG:PSub G0 w0)(s:Bs)(hs:s.length≤16777216)(c:UInt8) :
  Calls Tryz.prog 198 #[str s,str [c],.int .i64 0,.int .i64 (-1)] w0 (RetP w0 G0 (fun G v=>RdT G v (Sp.cutAt c s))):=by
 have hcnt:=Sp.cnt_le c s
 have H:=Hp.init hG
 refine calls_of_W (l:=[str s,str [c],.int .i64 0,.int .i64 (-1)]) func198 Z ntmps198 Z (q2 (aG Z (q3 (W_seq (q2 (pe 2 Z (q3 ?_)))))))
 refine W_cond Z ?_ ?_
 ·intro hc1
  try simp only[nrm]at hc1
  exact absurd hc1 (by decide)
 intro hc1'
 try simp only[nrm]at hc1'
 refine W_skip (N_K (W_seq (q2 (mV Z (o_seql Z Z Z (q3 ?_))))))
 refine W_cond Z ?_ ?_
 ·intro hc2
  try simp only[nrm]at hc2
  exact absurd hc2 (by simp)
 intro hc2'
 try simp only[nrm]at hc2'
 refine W_skip (N_K (W_seq (q2 (pe 2 Z (q3 ?_)))))
 refine W_cond Z ?_ ?_
 ·intro hc3
  try simp only[nrm]at hc3
  refine W_region (pe 2 Z (xr H Z2 (l_Count_c _ _ hs _) ?_));intro _ H
  refine aD Z2 (aG Z (q1 (pe 2 Z (lS Z (aD Z2 (o_min Z Z Z (aG Z (q1 (mV Z (o_makeN (c:=(s.count c+1)) (sz:=1) (bytes:=16) H underlying94 typeInfo9 ⟨_,Z,Z⟩ Z Z Z Z Z Z Z oM oM oM Z ?_))))))))));intro _ _ H
  have hchk7:=Chk.rep (E:=strE) (sz:=1) (G:=G0) (x0:=[]) (⟨rfl,by decide⟩) rfl ((s.count c+1))
  refine aG Z (q1 (mV Z (o_sub Z Z Z oO (aG Z (q1 (aG Z (q3 (W_seq (W_block ?_)))))))))
  refine W_lp (hf:=(Sub.cons (t:=1) Z (Sub.cons (t:=2) Z (Sub.cons (t:=3) Z (Sub.cons (t:=8) Z Sub.nil))))) (J:=fun M w m=>∃(v:Value) (n:Nat) (cs:List Value) (xs:List (Bs)) (r:Bs) (i:Nat) (G:PH),M=[(0,str r),(10,.int .i64 (i:Int)),(9,v)]∧PLe G0 G∧Hp w0 G0 [] w G [acc 9 1 v n cs]∧(Chk strE 1 G cs xs∧n=xs.length∧i≤s.count c∧xs.length=s.count c+1∧r.length≤16777216∧xs.take i++Sp.cutAt c r=Sp.cutAt c s∧r.count c=s.count c-i)∧m=(s.count c+1-i)) (h0:=⟨_,_,_,(List.replicate (s.count c+1) []),s,0,_,Z,PLe.refl _,H,?inv,Z⟩) (round:=?round)
  case inv=>exact⟨hchk7,by first|rfl|simp|(simp;omega)|omega,(by simp[hs])⟩
  case round =>
   rintro _ _ _ ⟨v,n,cs,xs,r,i,_,rfl,hle9,H,hinv9,rfl⟩
   obtain⟨hchk9_0,_,hinv9⟩:=hinv9
   obtain⟨_,_,rfl⟩:=H.accShape (k:=0) rfl
   obtain⟨_,hxl,hrl,hcut,_⟩:=hinv9
   refine W_seq (q2 (pe 3 Z (q3 ?_)))
   refine W_cond Z ?_ ?_
   ·intro hc10
    try simp only[nrm]at hc10
    refine W_skip (N_K (W_block (q2 (pe 2 Z (xr H Z2 (l_Index_c _ _ hrl _) ?_)))));intro _ H
    refine aG Z (q3 (W_seq (q2 (pe 2 Z (q3 ?_)))))
    refine W_cond Z ?_ ?_
    ·intro hc12
     try simp only[nrm]at hc12
     have hx:=Sp.count_none c (Sp.at_none hc12)
     omega
    intro hc12'
    try simp only[nrm]at hc12'
    obtain⟨m,_,hm1,_,_,_,_⟩:=Sp.at_nat hc12'
    have hm6:=Sp.count_some c hm1
    refine W_skip (N_K (q2 (pe 5 Z (aD Z2 (o_slice_str_to underlying9 Z Z Z oM oM (o_index_A 0 H i Z hchk9_0 underlying94 sizeOf9 Z Z Z Z aN aN ?_))))));intro _ _ _ hba15 hz15 hE15 _;cases hba15
    obtain⟨rfl,hi15⟩:=hE15;have hy_hi15:_≤16777216:=hi15
    have hcl16:=hchk9_0.length
    refine o_store_A 0 H sizeOf9 Z Z Z Z Z (by simp only[vc,List.length_cons,List.length_nil];omega) ?_;intro _ H
    have hchk16:=hchk9_0.put (x':=(r.take m)) (off:=0) (vs:=[_]) hz15 (fun cs hl hE=>by obtain⟨rfl,_⟩:=hE;exact⟨congrArg (fun j=>[str (List.take j r)]) (show(Sp.optI (List.findIdx? (Sp.isC c) r)+0).toNat=m by omega),by simp;omega⟩) (by simp only[vc,List.length_cons,List.length_nil];omega)
    refine q1 (pe 3 Z (lS Z ?_))
    have hll1:([c]:Fw.Bs).length=1:=rfl
    refine aD Z2 (o_slice_str_from underlying9 Z Z Z oM oM (aG Z (q3 (W_region (mV Z (aD Z2 (aG Z (R_nil (N_B ?_)))))))))
    refine N_lp (hJ:=⟨_,_,_,(xs.set i (r.take m)),(r.drop (Sp.optI (List.findIdx? (Sp.isC c) r)+(([c]:Fw.Bs).length:Int)).toNat),i+1,_,Z,hle9,H,?inv,Z⟩) (hm:=?hm)
    case hm=>omega
    case inv=>exact⟨hchk16,aN,(by refine⟨by omega,by simp[hxl],by simp;omega,?_,?_⟩;(· rw[show(Sp.optI (List.findIdx? (Sp.isC c) r)+(([c]:Fw.Bs).length:Int)).toNat=m+1 by omega];exact Sp.cut_round hcut hm1 oM rfl);(· rw[show(Sp.optI (List.findIdx? (Sp.isC c) r)+(([c]:Fw.Bs).length:Int)).toNat=m+1 by omega];omega))⟩
   intro hc10'
   try simp only[nrm]at hc10'
   refine W_exit (N_K_exit (N_LP_exit (N_B_same (N_K (q2 (pe 3 Z (o_index_A 0 H i Z hchk9_0 underlying94 sizeOf9 Z Z Z Z aN aN ?_)))))));intro _ _ _ hba20 hz20 hE20 _;cases hba20
   obtain⟨rfl,hi20⟩:=hE20;have hy_hi20:_≤16777216:=hi20
   have hcl21:=hchk9_0.length
   refine o_store_A 0 H sizeOf9 Z Z Z Z Z (by simp only[vc,List.length_cons,List.length_nil];omega) ?_;intro _ H
   have hchk21:=hchk9_0.put (x':=r) (off:=0) (vs:=[_]) hz20 (fun cs hl hE=>by obtain⟨rfl,_⟩:=hE;exact⟨rfl,hrl⟩) (by simp only[vc,List.length_cons,List.length_nil];omega)
   refine q1 ?_
   obtain⟨_,H,hsg22,hsr22⟩:=H.shut' (k:=0) rfl hchk21 aN aN
   refine pe 2 Z (aD Z2 ?_)
   have hcap24:=hsr22.cap;try simp only[List.length_set,List.length_append,List.length_take,List.length_drop,List.length_replicate]at hcap24
   refine o_slice_to (j:=(i+1)) underlying94 sizeOf9 Z Z Z oM oM ?_
   have hsl24:=hsr22.take (j:=(i+1)) aN
   have hsn2:=hsl24.len
   refine aG Z (q3 (W_ret (rt1 results198 Z ?_)))
   obtain rfl:i=s.count c:=by omega
   have hcl:=Sp.cut_last hcut oM oM
   exact H.retP (by rw[←hcl];exact hsl24)
 intro hc3'
 try simp only[nrm]at hc3'
 exact absurd hc3' (by decide)
theorem l_Split_c (w0:World)(G0:PH)(hG:PSub G0 w0)(s:Bs)(hs:s.length≤16777216)(c:UInt8) :
  Calls Tryz.prog 181 #[str s,str [c]] w0 (RetP w0 G0 (fun G v=>RdT G v (Sp.cutAt c s))):=by
 have H:=Hp.init hG
 refine calls_of_W (l:=[str s,str [c]]) func181 Z ntmps181 Z (q2 (aG Z (q1 (pe 2 Z (xc Z2 (l_genSplit_c _ _ H.sub _ hs _) ?_)))))
 rintro _ _ ⟨_,_,g1,rfl,hr1_0⟩
 have H:=H.grow g1
 obtain⟨_,_,rfl⟩:=hr1_0.shape;have hx_hr1_0:_≤1099511627776:=hr1_0.lim
 refine⟨_,Z,?_⟩
 refine aG Z (q3 (W_ret (rt1 results181 Z ?_)))
 exact H.retP hr1_0
theorem i_parts_c (w0:World)(G0:PH)(hG:PSub G0 w0)(p:Bs)(hp:p.length≤16777216) :
  Calls Tryz.prog 167 #[str p] w0 (RetP w0 G0 (fun G v=>RdT G v (Sp.parts p))):=by
 have H:=Hp.init hG
 refine calls_of_W (l:=[str p]) func167 Z ntmps167 Z (q2 (aG Z (q3 (W_seq (q2 (mV Z (lS Z (pe 1 Z (q3 ?_)))))))))
 refine W_cond Z ?_ ?_
 ·intro hc1
  try simp only[nrm]at hc1
  refine q2 (aG Z (q3 (W_ret (N_K_ret (rt1 results167 Z ?_)))))
  exact H.retP (by rw[show Sp.parts p=_ from by exact Sp.parts_long oM];exact(RdS.nil _ _ _))
 intro hc1'
 try simp only[nrm]at hc1'
 refine W_skip (N_K (q2 (mV Z (xc Z2 (l_Split_c _ _ H.sub _ hp _) ?_))))
 rintro _ _ ⟨G2,_,g2,rfl,hr2_0⟩
 have H:=H.grow g2
 obtain⟨_,_,rfl⟩:=hr2_0.shape;have hx_hr2_0:_≤1099511627776:=hr2_0.lim
 refine⟨_,Z,?_⟩
 refine aG Z (q3 (W_seq (q2 (mV Z (lN Z (pe 1 Z (q3 ?_)))))))
 refine W_cond Z ?_ ?_
 ·intro hc3
  try simp only[nrm]at hc3
  refine q2 (aG Z (q3 (W_ret (N_K_ret (rt1 results167 Z ?_)))))
  exact H.retP (by rw[show Sp.parts p=_ from by exact Sp.parts_many (by rw[←Sp.cutAt_47];omega)];exact(RdS.nil _ _ _))
 intro hc3'
 try simp only[nrm]at hc3'
 refine W_skip (N_K (W_seq (q2 (mV Z (lN Z (mV Z (q3 (W_block ?_))))))))
 refine W_lp (hf:=(Sub.cons (t:=3) Z (Sub.cons (t:=14) Z (Sub.cons (t:=15) Z Sub.nil)))) (J:=fun M w m=>∃(k:Nat) (G:PH),M=[(16,.int .i64 (k:Int))]∧PLe G2 G∧Hp w0 G0 [] w G []∧(k≤(Sp.cutAt 47 p).length∧((Sp.cutAt 47 p).take k).all Sp.l1Word=true)∧m=((Sp.cutAt 47 p).length-k)) (h0:=⟨0,_,Z,PLe.refl _,H,?inv,Z⟩) (round:=?round)
 case inv=>exact⟨by omega,by simp⟩
 case round =>
  rintro _ _ _ ⟨k,_,rfl,hle4,H,hinv4,rfl⟩
  have hr2_0:=hr2_0.up hle4
  obtain⟨_,hall⟩:=hinv4
  refine q2 (pe 1 Z (q3 (W_seq ?_)))
  refine W_cond Z ?_ ?_
  ·intro hc5
   try simp only[nrm]at hc5
   refine W_skip (N_K (W_seq (W_block (q2 (iP k hr2_0 Z3 Z ?_)))));intro _ _ _ _ hz6 hE6 hrow6
   obtain⟨rfl,hi6⟩:=hE6;have hy_hi6:_≤16777216:=hi6
   refine lP H hrow6 0 Z2 (aG Z (q1 (mV Z (xr H Z2 (i_partValid_c _ _ hi6) ?_))));intro _ H
   refine pe 1 Z (q3 ?_)
   refine W_cond Z ?_ ?_
   ·intro hc8
    try simp only[nrm]at hc8
    refine q2 (aG Z (q3 (W_ret (N_B_ret (N_K_ret (N_LP_ret (N_B_ret (N_K_ret (rt1 results167 Z ?_)))))))))
    exact H.retP (by rw[show Sp.parts p=_ from by exact Sp.parts_bad (by rw[←Sp.cutAt_47];exact hz6) hc8];exact(RdS.nil _ _ _))
   intro hc8'
   try simp only[nrm]at hc8'
   refine W_skip (N_B (N_K (W_region (aD Z2 (mV Z (R_nil ?_))))))
   refine N_lp (hJ:=⟨k+1,_,Z,hle4,H,?inv,Z⟩) (hm:=?hm)
   case hm=>omega
   case inv=>exact⟨by omega,Sp.all_take hall hz6 (by assumption)⟩
  intro hc5'
  try simp only[nrm]at hc5'
  refine W_exit (N_K_exit (N_LP_exit (N_B_same (N_K (q2 (pe 2 Z (q3 (W_ret (rt1 results167 Z ?_)))))))))
  obtain rfl:k=(Sp.cutAt 47 p).length:=by omega
  rw[List.take_length]at hall
  have hpo:Sp.parts p=Sp.cutAt 47 p:=(Sp.parts_ok (by rw[←Sp.cutAt_47];exact hall) (by rw[←Sp.cutAt_47];omega)).trans (Sp.cutAt_47 p).symm
  exact H.retP (by rw[hpo];exact hr2_0)
theorem i_PathParts_c (w0:World)(G0:PH)(hG:PSub G0 w0)(p:Bs)(hp:p.length≤16777216) :
  Calls Tryz.prog 135 #[str p] w0 (RetP w0 G0 (fun G v=>RdT G v (Sp.parts p))):=by
 have H:=Hp.init hG
 refine calls_of_W (l:=[str p]) func135 Z ntmps135 Z (q2 (aG Z (q1 (mV Z (xc Z2 (i_parts_c _ _ H.sub _ hp) ?_)))))
 rintro _ _ ⟨_,_,g1,rfl,hr1_0⟩
 have H:=H.grow g1
 obtain⟨_,_,rfl⟩:=hr1_0.shape;have hx_hr1_0:_≤1099511627776:=hr1_0.lim
 refine⟨_,Z,?_⟩
 refine aG Z (q3 (W_ret (rt1 results135 Z ?_)))
 exact H.retP hr1_0
theorem i_valid_c (w0:World)(G0:PH)(hG:PSub G0 w0)(p:Bs)(hp:p.length≤16777216) :
  Calls Tryz.prog 152 #[str p] w0 (Rets w0 (.bool (Sp.PathValid p))):=by
 have H:=Hp.init hG
 refine calls_of_W (l:=[str p]) func152 Z ntmps152 Z (q2 (aG Z (q1 (mV Z (xc Z2 (i_parts_c _ _ H.sub _ hp) ?_)))))
 rintro _ _ ⟨_,_,g1,rfl,hr1_0⟩
 have H:=H.grow g1
 obtain⟨_,_,rfl⟩:=hr1_0.shape;have hx_hr1_0:_≤1099511627776:=hr1_0.lim
 refine⟨_,Z,?_⟩
 refine lN Z (pe 2 Z (q3 (W_ret (rt1 results152 Z ?_))))
 exact H.rets (congrArg Value.bool (by rw[←Sp.parts_pos,Bool.eq_iff_iff];simp))
theorem i_PathValid_c (w0:World)(G0:PH)(hG:PSub G0 w0)(p:Bs)(hp:p.length≤16777216) :
  Calls Tryz.prog 119 #[str p] w0 (Rets w0 (.bool (Sp.PathValid p))):=by
 have H:=Hp.init hG
 refine calls_of_W (l:=[str p]) func119 Z ntmps119 Z (q2 (aG Z (q1 (mV Z (xr H Z2 (i_valid_c _ _ H.sub _ hp) ?_)))));intro _ H
 refine aG Z (q3 (W_ret (rt1 results119 Z ?_)))
 exact H.rets (congrArg Value.bool (by rfl))
theorem i_itemValid_c (w0:World)(G0:PH)(hG:PSub G0 w0)(cx:List Value)(x:BItem)(hx:itemE G0 x cx) :
  Calls Tryz.prog 82 #[.agg cx.toArray] w0 (Rets w0 (.bool (Sp.l5Item x))):=by
 obtain⟨_,_,_,rfl,hi1,hr1,_,_⟩:=ox hx
 have H:=Hp.init hG
 refine calls_of_W (l:=[_]) func82 Z ntmps82 Z (q2 (o_box H Z Z Z ?_));intro b2 _ _ H
 refine aG Z (q3 (W_seq (q2 (fA 0 Z (lB 0 H Z3 (xr H Z2 (i_PathValid_c _ _ H.sub _ hi1) ?_))))));intro _ H
 refine pe 2 Z ?_
 refine R_case (t:=9) Z ?_ ?_
 ·intro hc4
  try simp only[nrm]at hc4
  refine pe 9 Z (R_pass Z (yl_un Z Z) (R_pass Z (yl_un Z Z) (R_pass Z (yl_un Z Z) (R_pass Z (yl_un Z Z) (pe 2 Z (q3 (W_true Z (q2 (aG Z (q3 (W_ret (N_K_ret (rt1 results82 Z ?_)))))))))))))
  exact H.rets (congrArg Value.bool (by simp[Sp.l5Item,hc4]))
 intro hc4'
 try simp only[nrm]at hc4'
 refine gR Z (fA 2 Z (gR Z (lB 0 H Z3 (gR Z (lN Z (pe 3 Z ?_))))))
 refine R_case (t:=15) Z ?_ ?_
 ·intro hc5
  try simp only[nrm]at hc5
  refine pe 3 Z (R_pass Z (yl_un Z Z) (R_pass Z (yl_un Z Z) (R_pass Z (yl_un Z Z) (R_pass Z (yl_un Z Z) (pe 2 Z (q3 (W_true Z (q2 (aG Z (q3 (W_ret (N_K_ret (rt1 results82 Z ?_)))))))))))))
  exact H.rets (congrArg Value.bool (by rw[Sp.l5Item,Bool.eq_iff_iff];simp;intros;omega))
 intro hc5'
 try simp only[nrm]at hc5'
 refine gR Z (fA 1 Z (gR Z (lB 0 H Z3 (pe 1 Z ?_))))
 refine R_case (t:=18) Z ?_ ?_
 ·intro hc6
  try simp only[nrm]at hc6
  refine gR Z (fA 2 Z (gR Z (lB 0 H Z3 (gR Z (lN Z (pe 3 Z (q3 ?_)))))))
  refine W_cond Z ?_ ?_
  ·intro hc7
   try simp only[nrm]at hc7
   refine q2 (aG Z (q3 (W_ret (N_K_ret (rt1 results82 Z ?_)))))
   exact H.rets (congrArg Value.bool (by rw[Sp.l5Item,Sp.all_false (c:=x.ids[0]) (k:=0) (List.getElem?_eq_getElem oM) (by simp[Sp.idOk,hc6])];rfl))
  intro hc7'
  try simp only[nrm]at hc7'
  refine W_skip (N_K (W_seq (q2 (fA 2 Z (lB 0 H Z3 (lN Z (mV Z (q3 (W_block ?_)))))))))
  obtain⟨ln8,hln8,H⟩:=H.name (k:=0) rfl
  refine W_lp (hf:=(Sub.cons (t:=26) Z (Sub.cons (t:=27) Z Sub.nil))) (J:=fun M w m=>∃(k:Nat) (G:PH),M=[(28,.int .i64 (k:Int))]∧PLe G0 G∧Hp w0 G0 [] w G [blk b2 (cl ln8 66)]∧(k≤x.ids.length∧(x.ids.take k).all (Sp.idOk x.dir)=true)∧m=(x.ids.length-k)) (h0:=⟨0,_,Z,PLe.refl _,H,?inv,Z⟩) (round:=?round)
  case inv=>exact⟨by omega,by simp⟩
  case round =>
   rintro _ _ _ ⟨k,_,rfl,hle9,H,hinv9,rfl⟩
   subst hln8
   have hr1:=hr1.up hle9
   obtain⟨hk,hall⟩:=hinv9
   refine q2 (pe 1 Z (q3 (W_seq ?_)))
   refine W_cond Z ?_ ?_
   ·intro hc10
    try simp only[nrm]at hc10
    refine W_skip (N_K (W_seq (W_block (q2 (iP k hr1 Z3 Z ?_)))));intro _ _ _ _ hz11 hE11 hrow11
    obtain⟨rfl,_⟩:=hE11
    refine lP H hrow11 0 Z2 (aG Z (q1 (pe 3 Z ?_)))
    refine R_case (t:=34) Z ?_ ?_
    ·intro hc12
     try simp only[nrm]at hc12
     refine pe 3 Z (q3 (W_true Z (q2 (aG Z (q3 (W_ret (N_B_ret (N_K_ret (N_LP_ret (N_B_ret (N_K_ret (rt1 results82 Z ?_))))))))))))
     exact H.rets (congrArg Value.bool (by rw[Sp.l5Item,Sp.all_false hz11 (by first|(exfalso;omega)|(simp[Sp.idOk,Sp.l6In, *];done)|(simp[Sp.idOk,Sp.l6In, *];omega))];rfl))
    intro hc12'
    try simp only[nrm]at hc12'
    refine pe 3 Z (q3 ?_)
    refine W_cond Z ?_ ?_
    ·intro hc13
     try simp only[nrm]at hc13
     refine q2 (aG Z (q3 (W_ret (N_B_ret (N_K_ret (N_LP_ret (N_B_ret (N_K_ret (rt1 results82 Z ?_)))))))))
     exact H.rets (congrArg Value.bool (by rw[Sp.l5Item,Sp.all_false hz11 (by first|(exfalso;omega)|(simp[Sp.idOk,Sp.l6In, *];done)|(simp[Sp.idOk,Sp.l6In, *];omega))];rfl))
    intro hc13'
    try simp only[nrm]at hc13'
    refine W_skip (N_B (N_K (W_region (aD Z2 (mV Z (R_nil ?_))))))
    refine N_lp (hJ:=⟨k+1,_,Z,hle9,H,?inv,Z⟩) (hm:=?hm)
    case hm=>omega
    case inv=>exact⟨by omega,Sp.all_take hall hz11 (by first|(exfalso;omega)|(simp[Sp.idOk,Sp.l6In, *];done)|(simp[Sp.idOk,Sp.l6In, *];omega))⟩
   intro hc10'
   try simp only[nrm]at hc10'
   refine W_exit (N_K_exit (N_LP_exit (N_B_same (N_K (q2 (aG Z (q3 (W_ret (rt1 results82 Z ?_)))))))))
   obtain rfl:k=x.ids.length:=by omega
   rw[List.take_length]at hall
   exact H.rets (congrArg Value.bool (by rw[Sp.l5Item,hall,Bool.eq_iff_iff];simp[hc4'];omega))
 intro hc6'
 try simp only[nrm]at hc6'
 refine pe 6 Z (q3 (W_false Z (W_skip (N_K (W_seq (q2 (fA 2 Z (lB 0 H Z3 (lN Z (mV Z (q3 (W_block ?_))))))))))))
 obtain⟨ln15,hln15,H⟩:=H.name (k:=0) rfl
 refine W_lp (hf:=(Sub.cons (t:=26) Z (Sub.cons (t:=27) Z Sub.nil))) (J:=fun M w m=>∃(k:Nat) (G:PH),M=[(28,.int .i64 (k:Int))]∧PLe G0 G∧Hp w0 G0 [] w G [blk b2 (cl ln15 66)]∧(k≤x.ids.length∧(x.ids.take k).all (Sp.idOk x.dir)=true)∧m=(x.ids.length-k)) (h0:=⟨0,_,Z,PLe.refl _,H,?inv,Z⟩) (round:=?round)
 case inv=>exact⟨by omega,by simp⟩
 case round =>
  rintro _ _ _ ⟨k,_,rfl,hle16,H,hinv16,rfl⟩
  subst hln15
  have hr1:=hr1.up hle16
  obtain⟨hk,hall⟩:=hinv16
  refine q2 (pe 1 Z (q3 (W_seq ?_)))
  refine W_cond Z ?_ ?_
  ·intro hc17
   try simp only[nrm]at hc17
   refine W_skip (N_K (W_seq (W_block (q2 (iP k hr1 Z3 Z ?_)))));intro _ _ _ _ hz18 hE18 hrow18
   obtain⟨rfl,_⟩:=hE18
   refine lP H hrow18 0 Z2 (aG Z (q1 (pe 3 Z ?_)))
   refine R_case (t:=34) Z ?_ ?_
   ·intro hc19
    try simp only[nrm]at hc19
    refine pe 3 Z (q3 (W_true Z (q2 (aG Z (q3 (W_ret (N_B_ret (N_K_ret (N_LP_ret (N_B_ret (N_K_ret (rt1 results82 Z ?_))))))))))))
    exact H.rets (congrArg Value.bool (by rw[Sp.l5Item,Sp.all_false hz18 (by first|(exfalso;omega)|(simp[Sp.idOk,Sp.l6In, *];done)|(simp[Sp.idOk,Sp.l6In, *];omega))];rfl))
   intro hc19'
   try simp only[nrm]at hc19'
   refine pe 3 Z (q3 ?_)
   refine W_cond Z ?_ ?_
   ·intro hc20
    try simp only[nrm]at hc20
    refine q2 (aG Z (q3 (W_ret (N_B_ret (N_K_ret (N_LP_ret (N_B_ret (N_K_ret (rt1 results82 Z ?_)))))))))
    exact H.rets (congrArg Value.bool (by rw[Sp.l5Item,Sp.all_false hz18 (by first|(exfalso;omega)|(simp[Sp.idOk,Sp.l6In, *];done)|(simp[Sp.idOk,Sp.l6In, *];omega))];rfl))
   intro hc20'
   try simp only[nrm]at hc20'
   refine W_skip (N_B (N_K (W_region (aD Z2 (mV Z (R_nil ?_))))))
   refine N_lp (hJ:=⟨k+1,_,Z,hle16,H,?inv,Z⟩) (hm:=?hm)
   case hm=>omega
   case inv=>exact⟨by omega,Sp.all_take hall hz18 (by first|(exfalso;omega)|(simp[Sp.idOk,Sp.l6In, *];done)|(simp[Sp.idOk,Sp.l6In, *];omega))⟩
  intro hc17'
  try simp only[nrm]at hc17'
  refine W_exit (N_K_exit (N_LP_exit (N_B_same (N_K (q2 (aG Z (q3 (W_ret (rt1 results82 Z ?_)))))))))
  obtain rfl:k=x.ids.length:=by omega
  rw[List.take_length]at hall
  exact H.rets (congrArg Value.bool (by rw[Sp.l5Item,hall,Bool.eq_iff_iff];simp[hc4'];omega))
theorem l_isNaN_c (w0:World)(x:Bs)(hx:x.length≤16777216) :
  Calls Tryz.prog 179 #[str x] w0 (Rets w0 (.bool false)):=by
 have H:=Hp.init0 w0
 refine calls_of_W (l:=[str x]) func179 Z ntmps179 Z (q2 (aG Z (q1 (pe 2 Z (o_sneq Z Z Z (aG Z (q3 (W_ret (rt1 results179 Z ?_)))))))))
 exact H.rets (congrArg Value.bool (by simp))
theorem l_Compare_c (w0:World)(x:Bs)(hx:x.length≤16777216)(y:Bs)(hy:y.length≤16777216) :
  Calls Tryz.prog 155 #[str x,str y] w0 (Rets w0 (.int .i64 (Sp.cmpB x y))):=by
 have H:=Hp.init0 w0
 refine calls_of_W (l:=[str x,str y]) func155 Z ntmps155 Z (q2 (aG Z (q1 (mV Z (xr H Z2 (l_isNaN_c _ _ hx) ?_)))));intro _ H
 refine aG Z (q1 (mV Z (xr H Z2 (l_isNaN_c _ _ hy) ?_)));intro _ H
 refine aG Z (q3 (W_seq (q2 (mV Z (q3 (W_false Z (W_skip (N_K (W_seq (q2 (mV Z (q3 (W_false Z (W_skip (N_K ?_)))))))))))))))
 refine W_seq (q2 (pe 2 Z (o_slss Z Z Z (q3 ?_))))
 refine W_cond Z ?_ ?_
 ·intro hc3
  try simp only[nrm]at hc3
  refine q2 (aG Z (q3 (W_ret (N_K_ret (rt1 results155 Z ?_)))))
  exact H.rets (congrArg (Value.int .i64) (by unfold Sp.cmpB;simp_all))
 intro hc3'
 try simp only[nrm]at hc3'
 refine W_skip (N_K (W_seq (q2 (pe 2 Z (o_sgtr Z Z Z (q3 ?_))))))
 refine W_cond Z ?_ ?_
 ·intro hc4
  try simp only[nrm]at hc4
  refine q2 (aG Z (q3 (W_ret (N_K_ret (rt1 results155 Z ?_)))))
  exact H.rets (congrArg (Value.int .i64) (by unfold Sp.cmpB;simp_all))
 intro hc4'
 try simp only[nrm]at hc4'
 refine W_skip (N_K (q2 (aG Z (q3 (W_ret (rt1 results155 Z ?_))))))
 exact H.rets (congrArg (Value.int .i64) (by unfold Sp.cmpB;simp_all))
theorem i_place1_c (w0:World)(G0:PH)(hG:PSub G0 w0)(t:Nd)(hndt:RdN G0 t)(nm:Bs)(hnm:nm.length≤16777216) :
  Calls Tryz.prog 154 #[.pointer (some ⟨t.b,0,none⟩),str nm] w0 (Rets w0 (.int .i64 (Sp.cmpB t.name nm))):=by
 obtain⟨hnlt,_,_,_,_,_,_,hprt,hrit,hrkt⟩:=hndt.open
 have hn_hrit:=hrit.len;have hx_hrit:_≤1099511627776:=hrit.lim
 have hn_hrkt:=hrkt.len;have hx_hrkt:_≤1099511627776:=hrkt.lim
 have H:=Hp.init hG
 refine calls_of_W (l:=[.pointer (some ⟨t.b,0,none⟩),str nm]) func154 Z ntmps154 Z (q2 (aG Z (q1 (pe 2 Z (fA 0 Z (lP H hprt 0 Z2 (mV Z (xr H Z2 (l_Compare_c _ _ hnlt _ hnm) ?_))))))));intro _ H
 refine aG Z (q3 (W_ret (rt1 results154 Z ?_)))
 exact H.rets (congrArg (Value.int .i64) (by rfl))
theorem l_Search_c (w0:World)(G0:PH)(hG:PSub G0 w0)(vkids:Value)(kids:List (Nd))(hkids:RdNd G0 vkids kids)(nm:Bs)(hnm:nm.length≤16777216)(hsk:Sp.srt kids) :
  Calls Tryz.prog 153 #[vkids,str nm,.func (.func 154) #[] #[]] w0 (Rets w0 (.tuple #[.int .i64 (Sp.pl kids nm:Nat),.bool (Sp.fd kids nm).isSome])):=by
 obtain⟨akids,kkids,rfl⟩:=hkids.shape
 have hlimkids:kids.length≤1099511627776:=hkids.lim
 have H:=Hp.init hG
 refine calls_of_W (l:=[.slice akids kids.length kkids,str nm,.func (.func 154) #[] #[]]) func153 Z ntmps153 Z (q2 (pe 2 Z (q1 (mV Z (lN Z (aG Z (q1 (pe 3 Z (q3 (W_seq (W_block ?_)))))))))))
 refine W_lp (hf:=(Sub.cons (t:=0) Z (Sub.cons (t:=1) Z (Sub.cons (t:=2) Z (Sub.cons (t:=6) Z (Sub.cons (t:=7) Z (Sub.cons (t:=8) Z Sub.nil))))))) (J:=fun M w m=>∃(i j:Nat) (G:PH),M=[(9,.int .i64 (i:Int)),(10,.int .i64 (j:Int))]∧PLe G0 G∧Hp w0 G0 [] w G []∧(i≤j∧j≤kids.length∧(∀(k:Nat) (x:Nd),k<i→kids[k]? = some x→Sp.lt x.name nm=true)∧(∀(k:Nat) (x:Nd),j≤k→kids[k]? = some x→Sp.lt x.name nm=false))∧m=(j-i)) (h0:=⟨0,kids.length,_,Z,PLe.refl _,H,?inv,Z⟩) (round:=?round)
 case inv=>exact⟨by omega,by omega,fun k x hk=>by omega,fun k x hk hx=>by have:=(List.getElem?_eq_some_iff.1 hx).1;omega⟩
 case round =>
  rintro _ _ _ ⟨i,j,_,rfl,hle1,H,hinv1,rfl⟩
  have hkids:=hkids.up hle1
  obtain⟨_,_,hlo,hhi⟩:=hinv1
  refine W_seq (q2 (pe 3 Z (q3 ?_)))
  refine W_cond Z ?_ ?_
  ·intro hc2
   try simp only[nrm]at hc2
   refine W_skip (N_K (W_block (q2 (pe 2 Z (aD Z2 (o_conv (by simp[underlying3]) underlying211 Z Z (wrap_u64 oO) (o_shr1 Z Z Z (by decide) (o_conv (by simp[underlying211]) underlying3 Z Z (wrap_i64 oO) (aG Z (q1 (pe 3 Z (iP ((i+j) / 2) hkids Z3 oM ?_))))))))))));intro _ _ z4 _ hz4 hE4 hrow4
   obtain⟨rfl,hnd4⟩:=hE4;obtain⟨_,_,_,_,_,_,_,_,hri4,hrk4⟩:=hnd4.open;have hn_hri4:=hri4.len;have hx_hri4:_≤1099511627776:=hri4.lim;have hn_hrk4:=hrk4.len;have hx_hrk4:_≤1099511627776:=hrk4.lim
   refine lP H hrow4 0 Z2 (mV Z (o_callv call154 Z Z Z (i_place1_c _ _ H.sub _ hnd4 _ hnm) ?_))
   rintro _ _ ⟨rfl,ew5⟩;have H:=H.step ew5;refine⟨_,rfl,?_⟩
   refine pe 1 Z (q3 ?_)
   refine W_cond Z ?_ ?_
   ·intro hc6
    try simp only[nrm]at hc6
    refine W_region (mV Z (aD Z2 (aG Z (R_nil (N_B ?_)))))
    refine N_lp (hJ:=⟨((i+j) / 2+1),j,_,Z,hle1,H,?inv,Z⟩) (hm:=?hm)
    case hm=>omega
    case inv=>exact⟨by omega,by omega,Sp.pw_lt hsk hz4 ((Sp.cmpB_lt _ _).1 hc6),hhi⟩
   intro hc6'
   try simp only[nrm]at hc6'
   refine W_region (pe 2 Z (R_nil (N_B ?_)))
   refine N_lp (hJ:=⟨i,((i+j) / 2),_,Z,hle1,H,?inv,Z⟩) (hm:=?hm)
   case hm=>omega
   case inv=>exact⟨by omega,by omega,hlo,Sp.pw_ge hsk hz4 (by cases hlt:Sp.lt z4.name nm with |false=>rfl|true=>exact absurd ((Sp.cmpB_lt _ _).2 hlt) oM)⟩
  intro hc2'
  try simp only[nrm]at hc2'
  refine W_exit (N_K_exit (N_LP_exit (N_B_same (N_K (q2 (pe 5 Z ?_))))))
  refine R_case (t:=39) Z ?_ ?_
  ·intro hc8
   try simp only[nrm]at hc8
   refine pe 3 Z (gR Z (iP i hkids Z3 Z ?_));intro _ _ _ _ hz9 hE9 hrow9
   obtain⟨rfl,hnd9⟩:=hE9;obtain⟨_,_,_,_,_,_,_,_,hri9,hrk9⟩:=hnd9.open;have hn_hri9:=hri9.len;have hx_hri9:_≤1099511627776:=hri9.lim;have hn_hrk9:=hrk9.len;have hx_hrk9:_≤1099511627776:=hrk9.lim
   refine gR Z (lP H hrow9 0 Z2 (pe 1 Z (gR Z (o_callv call154 Z Z Z (i_place1_c _ _ H.sub _ hnd9 _ hnm) ?_))))
   rintro _ _ ⟨rfl,ew10⟩;have H:=H.step ew10;refine⟨_,rfl,?_⟩
   refine pe 4 Z (q3 (W_ret (rt2 results153 Z Z ?_)))
   obtain rfl:i=j:=by omega
   have hpl:=Sp.pl_of oM hlo hhi
   obtain⟨hfd,_⟩:=Sp.fd_at hsk hz9 hlo hhi
   exact H.rets (by rw[hpl,hfd];simp only[Sp.cmpB_eq];rfl)
  intro hc8'
  try simp only[nrm]at hc8'
  refine pe 11 Z (q3 (W_ret (rt2 results153 Z Z ?_)))
  obtain rfl:i=j:=by omega
  have hpl:=Sp.pl_of oM hlo hhi
  have hfd:=Sp.fd_end (nm:=nm) (ks:=kids) (fun k x hk hx=>hlo k x oM hx)
  exact H.rets (by rw[hpl,hfd];rfl)
theorem i_place_c (w0:World)(G0:PH)(hG:PSub G0 w0)(t:Nd)(hndt:RdN G0 t)(nm:Bs)(hnm:nm.length≤16777216)(hwt:t.wf) :
  Calls Tryz.prog 120 #[.pointer (some ⟨t.b,0,none⟩),str nm] w0 (Rets w0 (.tuple #[.int .i64 (Sp.pl t.kids nm:Nat),.bool (Sp.fd t.kids nm).isSome])):=by
 obtain⟨_,_,_,_,_,_,_,hprt,hrit,hrkt⟩:=hndt.open
 have hn_hrit:=hrit.len;have hx_hrit:_≤1099511627776:=hrit.lim
 have hn_hrkt:=hrkt.len;have hx_hrkt:_≤1099511627776:=hrkt.lim
 have H:=Hp.init hG
 refine calls_of_W (l:=[.pointer (some ⟨t.b,0,none⟩),str nm]) func120 Z ntmps120 Z (q2 (pe 2 Z (q1 (pe 2 Z (fA 3 Z (lP H hprt 3 Z2 (mV Z (xr H Z2 (l_Search_c _ _ H.sub _ _ hrkt _ hnm ((Nd.wf_iff _).1 hwt).1) ?_))))))));intro _ H
 refine pe 4 Z (q3 (W_ret (rt2 results120 Z Z ?_)))
 exact H.rets Z
theorem i_at_c (w0:World)(G0:PH)(hG:PSub G0 w0)(t:Nd)(hndt:RdN G0 t)(vps:Value)(ps:List (Bs))(hps:RdT G0 vps ps)(hwt:t.wf) :
  Calls Tryz.prog 101 #[.pointer (some ⟨t.b,0,none⟩),vps] w0 (RetV w0 (fun v=>(t.at_ ps=none∧v= .pointer none)∨(∃d,t.at_ ps=some d∧v= .pointer (some ⟨d.b,0,none⟩)))):=by
 obtain⟨_,_,_,_,_,_,_,hprt,hrit,hrkt⟩:=hndt.open
 have hn_hrit:=hrit.len;have hx_hrit:_≤1099511627776:=hrit.lim
 have hn_hrkt:=hrkt.len;have hx_hrkt:_≤1099511627776:=hrkt.lim
 obtain⟨aps,kps,rfl⟩:=hps.shape
 have hlimps:ps.length≤1099511627776:=hps.lim
 have H:=Hp.init hG
 refine calls_of_W (l:=[.pointer (some ⟨t.b,0,none⟩),.slice aps ps.length kps]) func101 Z ntmps101 Z (q2 (aG Z (q3 (W_seq (q2 (mV Z (lN Z (mV Z (q3 (W_block ?_))))))))))
 refine W_lp (hf:=(Sub.cons (t:=9) Z (Sub.cons (t:=10) Z Sub.nil))) (J:=fun M w m=>∃(k:Nat) (d:Nd) (G:PH),M=[(11,.int .i64 (k:Int)),(0,.pointer (some ⟨d.b,0,none⟩))]∧PLe G0 G∧Hp w0 G0 [] w G []∧(k≤ps.length∧RdN G d∧d.wf∧t.at_ (ps.take k)=some d)∧m=(ps.length-k)) (h0:=⟨0,t,_,Z,PLe.refl _,H,?inv,Z⟩) (round:=?round)
 case inv=>exact⟨by omega,hndt,hwt,rfl⟩
 case round =>
  rintro _ _ _ ⟨k,d,_,rfl,hle1,H,hinv1,rfl⟩
  have hps:=hps.up hle1
  obtain⟨_,hnd0,hwd,hat⟩:=hinv1;obtain⟨_,_,_,_,_,_,_,hpr0,_,hrk0⟩:=hnd0.open;have hn_hrk0:=hrk0.len
  refine q2 (pe 1 Z (q3 (W_seq ?_)))
  refine W_cond Z ?_ ?_
  ·intro hc2
   try simp only[nrm]at hc2
   refine W_skip (N_K (W_seq (W_block (q2 (iP k hps Z3 Z ?_)))));intro _ _ z3 _ hz3 hE3 hrow3
   obtain⟨rfl,hi3⟩:=hE3;have hy_hi3:_≤16777216:=hi3
   refine lP H hrow3 0 Z2 (aG Z (q1 (pe 2 Z (xr H Z2 (i_place_c _ _ H.sub _ hnd0 _ hi3 hwd) ?_))));intro _ H
   refine pe 5 Z (q3 (W_seq (q2 (pe 2 Z (q3 ?_)))))
   refine W_cond Z ?_ ?_
   ·intro hc5
    try simp only[nrm]at hc5
    refine q2 (aG Z (q3 (W_ret (N_K_ret (N_B_ret (N_K_ret (N_LP_ret (N_B_ret (N_K_ret (rt1 results101 Z ?_))))))))))
    exact H.retV (.inl ⟨Nd.at_stop hz3 hat (by simpa [Sp.fd,Nd.kid] using hc5),rfl⟩)
   intro hc5'
   try simp only[nrm]at hc5'
   obtain⟨q,hq⟩:=Option.isSome_iff_exists.1 hc5'
   have hpl:d.kids[Sp.pl d.kids z3]? = some q:=Nd.place_some hwd hq
   have hlt:Sp.pl d.kids z3<d.kids.length:=(List.getElem?_eq_some_iff.1 hpl).1
   refine W_skip (N_K (W_region (pe 2 Z (fA 3 Z (lP H hpr0 3 Z2 (mV Z (iP (Sp.pl d.kids z3) hrk0 Z3 Z ?_)))))));intro _ _ z6 _ hz6 hE6 hrow6
   obtain⟨rfl,hnd6⟩:=hE6;obtain⟨_,_,_,_,_,_,_,_,hri6,hrk6⟩:=hnd6.open;have hn_hri6:=hri6.len;have hx_hri6:_≤1099511627776:=hri6.lim;have hn_hrk6:=hrk6.len;have hx_hrk6:_≤1099511627776:=hrk6.lim
   have hkid:Nd.kid d z3=some z6:=by (show Sp.fd _ _=_);rw[hq];exact hpl.symm.trans hz6
   refine lP H hrow6 0 Z2 (aG Z (R_nil (N_B (N_K (W_region (aD Z2 (mV Z (R_nil ?_))))))))
   refine N_lp (hJ:=⟨k+1,z6,_,Z,hle1,H,?inv,Z⟩) (hm:=?hm)
   case hm=>omega
   case inv=>exact⟨by omega,hnd6,(((Nd.wf_iff _).1 hwd).2 _ (List.mem_of_getElem? hz6)).2,by rw[Nd.at_step hz3 hat];exact hkid⟩
  intro hc2'
  try simp only[nrm]at hc2'
  refine W_exit (N_K_exit (N_LP_exit (N_B_same (N_K (q2 (pe 2 Z (q3 (W_ret (rt1 results101 Z ?_)))))))))
  exact H.retV (.inr ⟨d,by rw[←hat,List.take_of_length_le oM],rfl⟩)
theorem i_dirOf_c (w0:World)(G0:PH)(hG:PSub G0 w0)(t:Nd)(hndt:RdN G0 t)(path:Bs)(hpath:path.length≤16777216)(hwt:t.wf) :
  Calls Tryz.prog 100 #[.pointer (some ⟨t.b,0,none⟩),str path] w0 (RetV w0 (fun v=>(t.dirOf path=none∧v= .tuple #[.pointer none,str []])∨(∃d nm,t.dirOf path=some (d,nm)∧v= .tuple #[.pointer (some ⟨d.b,0,none⟩),str nm]))):=by
 obtain⟨_,_,_,_,_,_,_,hprt,hrit,hrkt⟩:=hndt.open
 have hn_hrit:=hrit.len;have hx_hrit:_≤1099511627776:=hrit.lim
 have hn_hrkt:=hrkt.len;have hx_hrkt:_≤1099511627776:=hrkt.lim
 have H:=Hp.init hG
 refine calls_of_W (l:=[.pointer (some ⟨t.b,0,none⟩),str path]) func100 Z ntmps100 Z (q2 (pe 2 Z (q1 (mV Z (xc Z2 (i_PathParts_c _ _ H.sub _ hpath) ?_)))))
 rintro _ _ ⟨G1,_,g1,rfl,hr1_0⟩
 have H:=H.grow g1
 have hndt:=hndt.up g1.le
 obtain⟨_,_,rfl⟩:=hr1_0.shape;have hx_hr1_0:_≤1099511627776:=hr1_0.lim
 refine⟨_,Z,?_⟩
 refine aG Z (q3 (W_seq (q2 (mV Z (lN Z (pe 1 Z (q3 ?_)))))))
 refine W_cond Z ?_ ?_
 ·intro hc2
  try simp only[nrm]at hc2
  refine q2 (pe 2 Z (q3 (W_ret (N_K_ret (rt2 results100 Z Z ?_)))))
  exact H.retV (.inl ⟨Nd.dirOf_nil oM,Z⟩)
 intro hc2'
 try simp only[nrm]at hc2'
 refine W_skip (N_K (q2 (mV Z (lN Z (o_sub Z Z Z oO (aG Z (q1 (pe 3 Z ?_))))))))
 have hcap4:=hr1_0.cap;try simp only[List.length_set,List.length_append,List.length_take,List.length_drop,List.length_replicate]at hcap4
 refine o_slice_to (j:=((Sp.parts path).length-1)) underlying94 sizeOf9 Z Z Z oM oM ?_
 have hsl4:=hr1_0.take (j:=((Sp.parts path).length-1)) aN
 have hsn1:=hsl4.len
 refine xc Z2 (i_at_c _ _ H.sub _ hndt _ _ hsl4 hwt) ?_
 rintro _ _ ⟨_,rfl,ew5,⟨hat5,rfl⟩|⟨_,hat5,rfl⟩⟩
 ·skip
  have H:=H.step ew5;refine⟨_,rfl,?_⟩
  refine aG Z (q3 (W_seq (q2 (mV Z (o_eqnil_ptr underlying97 Z Z Z (pe 7 Z (q3 (W_true Z (q2 (pe 2 Z (q3 (W_ret (N_K_ret (rt2 results100 Z Z ?_))))))))))))))
  exact H.retV (.inl ⟨Nd.dirOf_no oM hat5,Z⟩)
 skip
 have H:=H.step ew5;refine⟨_,rfl,?_⟩
 have hnd5:=hndt.at hat5;obtain⟨_,_,_,_,_,_,_,hpr5,hri5,hrk5⟩:=hnd5.open
 have hn_hri5:=hri5.len;have hx_hri5:_≤1099511627776:=hri5.lim
 have hn_hrk5:=hrk5.len;have hx_hrk5:_≤1099511627776:=hrk5.lim
 refine aG Z (q3 (W_seq (q2 (mV Z (o_eqnil_ptr underlying97 Z Z Z (pe 3 Z (gR Z (fA 1 Z (gR Z (lP H hpr5 1 Z2 (pe 2 Z (q3 ?_))))))))))))
 refine W_cond Z ?_ ?_
 ·intro hc6
  try simp only[nrm]at hc6
  refine q2 (pe 2 Z (q3 (W_ret (N_K_ret (rt2 results100 Z Z ?_)))))
  exact H.retV (.inl ⟨Nd.dirOf_nodir oM hat5 (by simpa using hc6),rfl⟩)
 intro hc6'
 try simp only[nrm]at hc6'
 refine W_skip (N_K (W_seq (W_drawK [] 7 H kR Z ?_)));intro _ H;have hd7:=PLe.refl G1
 refine dE 0 Z2 (dE 1 Z2 (dE 2 Z2 ?_))
 have hl8:=hr1_0.len
 obtain⟨_,_,_,_,ha8,hz8,hq8,hE8,hrow8,_⟩:=hr1_0.at (i:=((Sp.parts path).length-1)) oM
 clear hq8
 obtain⟨rfl,hi8⟩:=hE8;have hy_hi8:_≤16777216:=hi8
 refine dI 3 1 ((Sp.parts path).length-1) ha8 Z3 oM (dP 4 hrow8 0 Z3 (dE 5 Z2 (dE 6 Z2 (rz (N_K (W_ret (rt2 results100 Z Z ?_)))))))
 exact H.retV (.inr ⟨_,_,Nd.dirOf_yes oM hz8 hat5 (by simpa using hc6'),rfl⟩)
theorem i_find_n_c (w0:World)(G0:PH)(hG:PSub G0 w0)(t:Nd)(hndt:RdN G0 t)(path:Bs)(hpath:path.length≤16777216)(hwt:t.wf) :
  Calls Tryz.prog 67 #[.pointer (some ⟨t.b,0,none⟩),str path] w0 (RetV w0 (fun v=>(t.find path=none∧v= .pointer none)∨(∃d,t.find path=some d∧v= .pointer (some ⟨d.b,0,none⟩)))):=by
 obtain⟨_,_,_,_,_,_,_,_,hrit,hrkt⟩:=hndt.open
 have hn_hrit:=hrit.len;have hx_hrit:_≤1099511627776:=hrit.lim
 have hn_hrkt:=hrkt.len;have hx_hrkt:_≤1099511627776:=hrkt.lim
 have H:=Hp.init hG
 refine calls_of_W (l:=[.pointer (some ⟨t.b,0,none⟩),str path]) func67 Z ntmps67 Z (q2 (aG Z (q1 (pe 2 Z (xc Z2 (i_dirOf_c _ _ H.sub _ hndt _ hpath hwt) ?_)))))
 rintro _ _ ⟨_,rfl,ew1,⟨hdf1,rfl⟩|⟨_,nm1,hdf1,rfl⟩⟩
 ·skip
  have H:=H.step ew1;refine⟨_,rfl,?_⟩
  refine pe 5 Z (q3 (W_seq (q2 (mV Z (o_eqnil_ptr underlying97 Z Z Z (q3 (W_true Z (q2 (aG Z (q3 (W_ret (N_K_ret (rt1 results67 Z ?_)))))))))))))
  exact H.retV (.inl ⟨Nd.find_no hdf1,Z⟩)
 skip
 have H:=H.step ew1;refine⟨_,rfl,?_⟩
 have hnml1:=Nd.dir_len hdf1
 have hnd1:=hndt.at (Nd.dirOf_some hdf1).2.2.1;obtain⟨_,_,nm1,_,_,_,_,_,hri1,hrk1⟩:=hnd1.open
 have hn_hri1:=hri1.len;have hx_hri1:_≤1099511627776:=hri1.lim
 have hn_hrk1:=hrk1.len;have hx_hrk1:_≤1099511627776:=hrk1.lim
 refine pe 5 Z (q3 (W_seq (q2 (mV Z (o_eqnil_ptr underlying97 Z Z Z (q3 (W_false Z (W_skip (N_K (q2 (pe 2 Z (xbs H Z7 ?_))))))))))));intro _ _ _ H
 have H:=H.blkAcc 1 (k:=0) (n:=1) rfl rfl (by decide)
 have hchk4:=((Chk.nil (E:=strE) (sz:=1) (G:=G0)).snoc (show strE _ _ _ from⟨rfl,hnml1⟩) rfl)
 refine xc Z2 (i_at_c _ _ (H.lendSubL [0]) _ (hnd1.up (PPlus.le _ _ _)) _ _ (H.lendRdL (k:=0) (ks:=[0]) Z Z hchk4 aN aN) (Nd.dir_wf hwt hdf1)) ?_
 rintro _ _ ⟨_,rfl,ew3,⟨hat3,rfl⟩|⟨_,hat3,rfl⟩⟩
 ·skip
  have H:=H.step ew3;refine⟨_,rfl,?_⟩
  refine aG Z (q3 (W_ret (rt1 results67 Z ?_)))
  exact H.retV (.inl ⟨(Nd.find_yes hdf1).trans hat3,Z⟩)
 skip
 have H:=H.step ew3;refine⟨_,rfl,?_⟩
 have hnd3:=hnd1.at hat3;obtain⟨_,_,_,_,_,_,_,_,hri3,hrk3⟩:=hnd3.open
 have hn_hri3:=hri3.len;have hx_hri3:_≤1099511627776:=hri3.lim
 have hn_hrk3:=hrk3.len;have hx_hrk3:_≤1099511627776:=hrk3.lim
 refine aG Z (q3 (W_ret (rt1 results67 Z ?_)))
 exact H.retV (.inr ⟨_,(Nd.find_yes hdf1).trans hat3,Z⟩)
theorem l_Insert_c (w0:World)(G0:PH)(hG:PSub G0 w0)(vkids:Value)(kids:List Nd)(i:Nat)(hi:i≤kids.length)(hkl:kids.length≤1099511627776)(vbk:Nat)(k:Nd)(hLent:Lent w0 G0 [acc 97 1 vkids kids.length (ptrs kids),blk vbk (cl [ptr k.b] 97)]) :
  Calls Tryz.prog 121 #[vkids,.int .i64 (i:Int),.slice (some ⟨vbk,0,none⟩) 1 1] w0 (RetM w0 G0 (fps [acc 97 1 vkids kids.length (ptrs kids),blk vbk (cl [ptr k.b] 97)]) (fun G' v Bs=>∃(c:List Value),Bs=[acc 97 1 v (kids.length+1) c]∧c=ptrs (kids.take i++k::kids.drop i))):=by
 have H:Hp w0 G0 (fps [acc 97 1 vkids kids.length (ptrs kids),blk vbk (cl [ptr k.b] 97)]) w0 G0 [acc 97 1 vkids kids.length (ptrs kids),blk vbk (cl [ptr k.b] 97)]:=hLent.hp
 obtain⟨akids,ckids,rfl⟩:=H.accShape (k:=0) rfl
 refine calls_of_W (l:=[.slice akids kids.length ckids,.int .i64 (i:Int),.slice (some ⟨vbk,0,none⟩) 1 1]) func121 Z ntmps121 Z (q2 (aG Z (q1 (pe 2 Z ?_))))
 have hac1:=H.accCap (k:=0) rfl
 refine o_slice_from (i:=i) underlying112 sizeOf97 Z Z Z Z oM (q1 (mV Z (lN Z (aG Z (q3 (W_seq (q2 (pe 2 Z (q3 ?_)))))))))
 refine W_cond Z ?_ ?_
 ·intro hc2
  try simp only[nrm]at hc2
  exact absurd hc2 (by decide)
 intro hc2'
 try simp only[nrm]at hc2'
 refine W_skip (N_K (q2 (mV Z (lN Z (aG Z (q3 (W_seq (q2 (pe 3 Z (q3 ?_))))))))))
 refine W_cond Z ?_ ?_
 ·intro hc3
  try simp only[nrm]at hc3
  refine q2 (pe 2 Z ?_)
  refine o_append 0 H underlying112 typeInfo97 ⟨_,Z,Z⟩ Z Z Z Z Z Z Z (news:=[ptr k.b]) Z (fun j u hu=>by (rw[Nat.zero_add]);exact blk_cell (k:=1) H rfl (by simpa using hu)) (by simp[ptr,Value.oneCell']) oM (by decide) ?_;intro _ _ H
  refine aG Z (q3 (W_ret (N_K_ret (rt1 results121 Z ?_))))
  have H:=H.dl 1
  exact H.retM ⟨_,rfl,by (obtain rfl:i=kids.length:=by omega);(rw[List.take_length,List.drop_length]);simp[ptrs]⟩
 intro hc3'
 try simp only[nrm]at hc3'
 obtain⟨b0,_,_,hv0,_⟩:=H.accBlk (k:=0) (i:=i) rfl oM;cases hv0
 have hvk:vbk≠b0:=fun e=>by subst e;have:=H.nd;simp[fps,acc_fp,blk]at this
 have hcc:=H.accCap (k:=0) rfl
 have hcm:=H.accMax (k:=0) rfl
 refine W_skip (N_K (W_seq (q2 (pe 2 Z (aD Z2 (mV Z (o_cap underlying112 Z Z (pe 1 Z (q3 ?_)))))))))
 refine W_cond Z ?_ ?_
 ·intro hc6
  try simp only[nrm]at hc6
  refine q2 (pe 2 Z ?_)
  have hac7:=H.accCap (k:=0) rfl
  refine o_slice_to (j:=i) underlying112 sizeOf97 Z Z Z Z oM (pe 2 Z (aD Z2 (mV Z (o_sub Z Z Z oO (o_appmk 0 H (kids.length+1-i) underlying112 underlying3 typeInfo97 Z Z Z Z Z Z Z Z oM Z oM oM oM oM ?_)))));intro _ _ _ H _ _
  refine aG Z (q1 (pe 2 Z (o_slice_from1 (i:=i) underlying112 sizeOf97 Z Z Z oM oM oM (mV Z ?_))))
  refine o_copy 0 H ([ptr k.b]) underlying112 typeInfo97 Z Z Z Z Z (by simp[Nat.min_def]<;>(try split)<;>omega) (fun j v hj=>by (rw[Addr.add_lit,Nat.zero_add]);exact blk_cell (k:=2) H rfl (by simpa using hj)) (by intro v hv;first|exact ptrs_one v (List.mem_of_mem_drop hv)|(simp at hv;subst hv;rfl)) (by simp;try omega) ?_;intro _ H
  refine q3 (W_seq (W_drawK [2] 9 H kR Z ?_));intro _ H;have hd12:=PLe.refl G0
  refine dE 0 Z2 (dE 1 Z2 (dE 2 Z2 (RD_t 3 Z kR Z (fun _ hK=>v_add Z Z oO) (RD_t 4 Z kR Z (fun _ hK=>v_slice_from1 (i:=(i+1)) underlying112 sizeOf97 Z Z oM oM oM) (dE 5 Z2 (dE 6 Z2 (RD_t 7 Z kR Z (fun _ hK=>v_slice_from1 (i:=i) underlying112 sizeOf97 Z Z oM oM oM) (r1 8 Z ?_))))))))
  refine o_copy 0 H ((ptrs kids).drop i) underlying112 typeInfo97 Z Z Z Z Z (by simp[Nat.min_def]<;>(try split)<;>omega) (fun j v hj=>by (rw[Addr.add_lit]);(rw[List.getElem?_drop]at hj);exact acc_cell (k:=1) H rfl (by first|exact hj|(rw[List.getElem?_append_left (List.getElem?_eq_some_iff.1 hj).1];exact hj))) (by intro v hv;first|exact ptrs_one v (List.mem_of_mem_drop hv)|(simp at hv;subst hv;rfl)) (by simp;try omega) ?_;intro _ H
  refine q4 H hd12 (rz (N_K (q2 (pe 2 Z (q3 (W_ret (N_K_ret (rt1 results121 Z ?_))))))))
  have H:=H.dl 1
  have H:=H.dl 1
  have hcx:=(insC2 (x:=ptr k.b) (z:= .pointer none) (i:=i) (r:=kids.length+1-i) (c:=ptrs kids) (by simp;omega) (by simp;omega)).trans (ptrs_ins kids k i)
  exact H.retM ⟨_,acc_1 oM,hcx⟩
 intro hc6'
 try simp only[nrm]at hc6'
 refine W_skip (N_K (q2 (pe 3 Z (aD Z2 (o_slice_to (j:=kids.length+1) underlying112 sizeOf97 Z Z Z oM oM ?_)))))
 obtain⟨_,H⟩:=H.accMore (k:=0) rfl oM
 refine aG Z (q3 (W_seq (q2 (pe 4 Z (aD Z2 (o_slice_from1 (i:=(i+1)) underlying112 sizeOf97 Z Z Z oM oM oM (o_overlaps 0 1 H (fun args w=>run_callFunc_extern func156 kR kR kR (e:=Extern.SlicesOverlaps.overlaps #[112,112] #[4]) kR args w) underlying112 sizeOf97 Z Z Z Z hvk oM (pe 1 Z (q3 (W_true Z (W_seq (W_drawK [1] 9 H kR Z ?_))))))))))));intro _ H;have hd17:=PLe.refl G0
 refine dE 0 Z2 (dE 1 Z2 (dE 2 Z2 (RD_t 3 Z kR Z (fun _ hK=>v_add Z Z oO) (RD_t 4 Z kR Z (fun _ hK=>v_slice_from1 (i:=(i+1)) underlying112 sizeOf97 Z Z oM oM oM) (dE 5 Z2 (dE 6 Z2 (RD_t 7 Z kR Z (fun _ hK=>v_slice_from1 (i:=i) underlying112 sizeOf97 Z Z oM oM oM) (r1 8 Z ?_))))))))
 refine o_copy 0 H ((ptrs kids).drop i) underlying112 typeInfo97 Z Z Z Z Z (by simp[Nat.min_def]<;>(try split)<;>omega) (fun j v hj=>by (rw[Addr.add_lit]);(rw[List.getElem?_drop]at hj);exact acc_cell (k:=0) H rfl (by first|exact hj|(rw[List.getElem?_append_left (List.getElem?_eq_some_iff.1 hj).1];exact hj))) (by intro v hv;first|exact ptrs_one v (List.mem_of_mem_drop hv)|(simp at hv;subst hv;rfl)) (by simp;try omega) ?_;intro _ H
 refine q4 H hd17 (rz (N_K (q2 (pe 2 Z (o_slice_from1 (i:=i) underlying112 sizeOf97 Z Z Z oM oM oM (mV Z ?_))))))
 refine o_copy 0 H ([ptr k.b]) underlying112 typeInfo97 Z Z Z Z Z (by simp[Nat.min_def]<;>(try split)<;>omega) (fun j v hj=>by (rw[Addr.add_lit,Nat.zero_add]);exact blk_cell (k:=1) H rfl (by simpa using hj)) (by intro v hv;first|exact ptrs_one v (List.mem_of_mem_drop hv)|(simp at hv;subst hv;rfl)) (by simp;try omega) ?_;intro _ H
 refine q1 (pe 2 Z (q3 (W_ret (N_K_ret (rt1 results121 Z ?_)))))
 have H:=H.dl 1
 exact H.retM ⟨_,rfl,(insC (by simp;omega)).trans (ptrs_ins kids k i)⟩
theorem l_Delete_c (w0:World)(G0:PH)(hG:PSub G0 w0)(vkids:Value)(kids:List Nd)(i:Nat)(hi:i<kids.length)(hkl:kids.length≤1099511627776)(hLent:Lent w0 G0 [acc 97 1 vkids kids.length (ptrs kids)]) :
  Calls Tryz.prog 171 #[vkids,.int .i64 (i:Int),.int .i64 ((i:Int)+1)] w0 (RetM w0 G0 (fps [acc 97 1 vkids kids.length (ptrs kids)]) (fun G' v Bs=>∃(c:List Value),Bs=[acc 97 1 v (kids.length-1) c]∧c=ptrs (kids.take i++kids.drop (i+1)))):=by
 have H:Hp w0 G0 (fps [acc 97 1 vkids kids.length (ptrs kids)]) w0 G0 [acc 97 1 vkids kids.length (ptrs kids)]:=hLent.hp
 obtain⟨akids,ckids,rfl⟩:=H.accShape (k:=0) rfl
 refine calls_of_W (l:=[.slice akids kids.length ckids,.int .i64 (i:Int),.int .i64 ((i:Int)+1)]) func171 Z ntmps171 Z (q2 (aG Z (q1 (pe 4 Z (lN Z ?_)))))
 have hcc:=H.accCap (k:=0) rfl
 refine o_slice3 (i:=i) (j:=i+1) (k:=kids.length) underlying112 sizeOf97 Z Z Z Z Z Z oM Z oM oM oM (q3 (W_seq (q2 (pe 3 Z (q3 ?_)))))
 refine W_cond Z ?_ ?_
 ·intro hc1
  try simp only[nrm]at hc1
  omega
 intro hc1'
 try simp only[nrm]at hc1'
 refine W_skip (N_K (q2 (mV Z (lN Z (aG Z (q3 (W_seq (W_drawK [] 8 H kR Z ?_))))))));intro _ H;have hd2:=PLe.refl G0
 refine dE 0 Z2 (dE 1 Z2 ?_)
 have hac3:=H.accCap (k:=0) rfl
 refine RD_t 2 Z kR Z (fun _ hK=>v_slice_to (j:=i) underlying112 sizeOf97 Z Z Z oM) (dE 3 Z2 (dE 4 Z2 ?_))
 have hac4:=H.accCap (k:=0) rfl
 refine RD_t 5 Z kR Z (fun _ hK=>v_slice_from (i:=(i+1)) underlying112 sizeOf97 Z Z oM oM) (r1 6 Z ?_)
 refine o_append_del 0 H i Z (chkK kids) (by intro _ _ hz _ hu;obtain rfl:=hz;simp at hu;subst hu;rfl) underlying112 typeInfo97 rfl rfl rfl rfl oM aN ?_;intro _ _ hb5 H _;cases hb5
 refine q4 H hd2 (dE 7 Z2 (rz (N_K (q2 (pe 2 Z (lN Z (mV Z ?_)))))))
 have hcc2:=H.accCap (k:=0) rfl
 refine o_slice_mid1 (i:=i+(kids.length-(i+1))) (j:=kids.length) underlying112 sizeOf97 Z Z Z Z Z Z oM oM oM ?_
 refine o_clear1 0 H underlying112 zeroValue97 Z Z (show od _ _=_ from(show od _ _=some (.slice _ (kids.length-(i+(kids.length-(i+1)))) _) from Z).trans (by rw[show kids.length-(i+(kids.length-(i+1)))=1 by omega])) Z oM (by simp;omega) ?_;intro _ H
 refine q1 (pe 2 Z (q3 (W_ret (rt1 results171 Z ?_))))
 exact H.retM ⟨_,acc_1 oM,(by (rw[Nat.mul_one,Nat.mul_one]);exact ptrs_del kids i)⟩
theorem i_insert_c (w0:World)(G0:PH)(hG:PSub G0 w0)(Ft:Fr)(t:Nd)(hNt:NdO 143 97 G0 t Ft)(cx:List Value)(x:BItem)(hx:itemE G0 x cx)(hLent:Lent w0 G0 [frag Ft])(hwt:t.wf)(hct:t.cnt≤1000) :
  Calls Tryz.prog 83 #[.pointer (some ⟨t.b,0,none⟩),.agg cx.toArray] w0 (RetM w0 G0 (fps [frag Ft]) (fun G' v Bs=>∃(nb:Nat) (F':Fr) (t':Nd),v= .bool (t.ins x nb).isSome∧Bs=[frag F']∧NdO 143 97 G' t' F'∧t'.b=t.b∧(t.ins x nb).getD t=t')):=by
 obtain⟨_,_,_,rfl,hi1,hr1,_,_⟩:=ox hx
 have H:Hp w0 G0 (fps [frag Ft]) w0 G0 [frag Ft]:=hLent.hp
 refine calls_of_W (l:=[.pointer (some ⟨t.b,0,none⟩),_]) func83 Z ntmps83 Z (q2 (o_box H Z Z Z ?_));intro _ _ _ H
 refine aG Z (q1 (mV Z (fA 0 Z (lB 0 H Z3 (xc Z2 (i_dirOf_c _ _ (H.lendSubL [1]) _ ((H.lendN (k:=1) (ks:=[1]) Z Z hNt).at (show Nd.at_ t []=some t from Z)) _ hi1 hwt) ?_)))))
 rintro _ _ ⟨_,rfl,ew3,⟨hdf3,rfl⟩|⟨d3,nm3,hdf3,rfl⟩⟩
 ·skip
  have H:=H.step ew3;refine⟨_,rfl,?_⟩
  refine pe 5 Z (q3 (W_seq (q2 (mV Z (o_eqnil_ptr underlying97 Z Z Z (q3 (W_true Z (q2 (aG Z (q3 (W_ret (N_K_ret (rt1 results83 Z ?_)))))))))))))
  have H:=H.dl 0
  exact H.retM ⟨0,_,_,by (rw[(Nd.ins_no1 hdf3)];rfl),rfl,hNt,rfl,by (rw[(Nd.ins_no1 hdf3)];rfl)⟩
 skip
 have H:=H.step ew3;refine⟨_,rfl,?_⟩
 have hnml3:=Nd.dir_len hdf3
 refine pe 5 Z (q3 (W_seq (q2 (mV Z (o_eqnil_ptr underlying97 Z Z Z (q3 (W_false Z (W_skip (N_K (q2 (pe 2 Z (xr H Z2 (i_place_c _ _ (H.lendSubL [1]) _ ((H.lendN (k:=1) (ks:=[1]) Z Z hNt).at (Nd.dirOf_some hdf3).2.2.1) _ hnml3 (Nd.dir_wf hwt hdf3)) ?_))))))))))));intro _ H
 refine pe 5 Z (q3 (W_seq (q2 (mV Z (q3 ?_)))))
 refine W_cond Z ?_ ?_
 ·intro hc5
  try simp only[nrm]at hc5
  refine q2 (aG Z (q3 (W_ret (N_K_ret (rt1 results83 Z ?_)))))
  have H:=H.dl 0
  exact H.retM ⟨0,_,_,by (rw[(Nd.ins_no2 hdf3 (by simpa using hc5))];rfl),rfl,hNt,rfl,by (rw[(Nd.ins_no2 hdf3 (by simpa using hc5))];rfl)⟩
 intro hc5'
 try simp only[nrm]at hc5'
 have H:=H.tF 1
 obtain⟨_,_,_,_,_,oR,H,ohri,ohNs,_,_,hcov,hclose⟩:=Hp.openNode H hNt (Nd.dirOf_some hdf3).2.2.1
 obtain⟨_,_,rfl⟩:=H.accShape (k:=1) rfl;have hdo:=PLe.refl G0;have hn_ohri:=ohri.len
 refine W_skip (N_K (W_seq (W_drawK [3] 19 H kR Z ?_)));intro _ H;have hd6:=PLe.refl G0
 refine dE 0 Z2 (dE 1 Z2 (dE 2 Z2 (dF 3 3 Z2 (dE 5 Z2 (dE 6 Z2 (dF 7 1 Z2 (dB 8 0 Z4 (dF 9 2 Z2 (dB 10 0 Z4 ?_)))))))))
 refine r2 4 11 Z2 ?_ ?_
 ·skip
  refine lB 0 H Z3 (q4 H hd6 (r1 11 Z (xc Z2 (l_Clone_c _ _ H.sub _ _ hr1) ?_)))
  rintro _ _ ⟨_,_,_,g7,rfl,⟨_,rfl,hchk7⟩,hp7,hq7,hs7⟩
  have H:=H.growO g7 hp7 hq7 hs7;obtain⟨_,_,rfl⟩:=H.accShape (k:=0) rfl
  have ohri:=ohri.up g7.le
  have ohNs:=ohNs.up g7.le
  have hdo:=hdo.trans g7.le
  have hd6:=hd6.trans g7.le
  refine⟨_,Z,?_⟩
  obtain⟨_,H,hsg8,hsr8⟩:=H.shutL (k:=0) rfl (H.apart (k:=0) (ks:=[1,2,3]) rfl rfl (by intro b hb;rcases hcov b hb with h|h|h;(· exact fpsAt_mem (k:=1) rfl rfl b (by simp[blk,h]));(· exact fpsAt_mem (k:=2) rfl rfl b h);(· exact fpsAt_mem (k:=3) rfl rfl b h))) hchk7 aN aN
  have ohri:=ohri.up hsg8
  have ohNs:=ohNs.up hsg8
  have hdo:=hdo.trans hsg8
  have hd6:=hd6.trans hsg8
  refine q4 H hd6 (RD_t 12 Z kR Z (fun _ hK=>v_build bf143 Z Z) (r1 13 Z (o_box H Z Z Z ?_)));intro b9 _ _ H
  refine q4 H hd6 (r1 14 Z (xbs H Z7 ?_));intro _ _ _ H
  refine q4 H hd6 (r1 15 Z ?_)
  have H:=H.tF 3
  refine xc Z2 (l_Insert_c _ _ H.sub _ _ _ (Sp.pl_le d3.kids nm3) oM _ (Nd.mk b9 nm3 x.dir x.ids []) H.lent2) ?_
  rintro _ _ ⟨_,_,_,rfl,H11',⟨_,rfl,rfl⟩⟩
  have ohri:=ohri.up H11'.le
  have ohNs:=ohNs.up H11'.le
  have hsr8:=hsr8.up H11'.le
  have hdo:=hdo.trans H11'.le
  have hd6:=hd6.trans H11'.le
  have H:=H.borrow2 H11'
  obtain⟨avAk,cvAk,rfl⟩:=H.accShape (k:=0) rfl
  refine⟨_,Z,?_⟩
  refine q4 H hd6 (dE 16 Z2 (dF 17 3 Z2 (r1 18 Z (xst 2 H Z8 ?_))));intro _ H
  refine q4 H hd6 (rz (N_K (q2 (aG Z (q3 (W_ret (rt1 results83 Z ?_)))))))
  have H:=H.sel [1,3,2,0] rfl
  have H:=H.inF
  have H:=H.tF 2
  have H:=H.tF 2
  obtain⟨Fs2,hp2,hN2⟩:=NdsO.ins (k:=Nd.mk b9 nm3 x.dir x.ids []) (Sp.pl d3.kids nm3) ohNs (NdO.new hnml3 hsr8)
  have hcd:=Nd.at_cnt (Nd.dirOf_some hdf3).2.2.1;have hcl:=Nd.kids_le d3;have hpl:=Sp.pl_le d3.kids nm3
  have hkl:(d3.kids.take (Sp.pl d3.kids nm3)++Nd.mk b9 nm3 x.dir x.ids []::d3.kids.drop (Sp.pl d3.kids nm3)).length=d3.kids.length+1:=by (simp;omega)
  obtain⟨F2,H,hN3,hb3⟩:=hclose (kids':=(d3.kids.take (Sp.pl d3.kids nm3)++Nd.mk b9 nm3 x.dir x.ids []::d3.kids.drop (Sp.pl d3.kids nm3))) (Fs':=Fs2) (by (rw[hkl]);exact H) (by (refine List.Perm.trans ?_ (List.Perm.append_right oR hp2.symm));simp) hdo ohri hN2 oM
  have hins:=Nd.ins_yes (nb:=b9) hdf3 (by simpa using hc5')
  exact H.retM ⟨b9,_,_,by (rw[hins];rfl),rfl,hN3,hb3,by (rw[hins];rfl)⟩
 skip
 refine xc Z2 (l_Clone_c _ _ H.sub _ _ hr1) ?_
 rintro _ _ ⟨_,_,_,g13,rfl,⟨_,rfl,hchk13⟩,hp13,hq13,hs13⟩
 have H:=H.growO g13 hp13 hq13 hs13;obtain⟨_,_,rfl⟩:=H.accShape (k:=0) rfl
 have ohri:=ohri.up g13.le
 have ohNs:=ohNs.up g13.le
 have hdo:=hdo.trans g13.le
 have hd6:=hd6.trans g13.le
 refine⟨_,Z,?_⟩
 obtain⟨_,H,hsg14,hsr14⟩:=H.shutL (k:=0) rfl (H.apart (k:=0) (ks:=[1,2,3]) rfl rfl (by intro b hb;rcases hcov b hb with h|h|h;(· exact fpsAt_mem (k:=1) rfl rfl b (by simp[blk,h]));(· exact fpsAt_mem (k:=2) rfl rfl b h);(· exact fpsAt_mem (k:=3) rfl rfl b h))) hchk13 aN aN
 have ohri:=ohri.up hsg14
 have ohNs:=ohNs.up hsg14
 have hdo:=hdo.trans hsg14
 have hd6:=hd6.trans hsg14
 refine q4 H hd6 (RD_t 12 Z kR Z (fun _ hK=>v_build bf143 Z Z) ?_)
 refine r2 4 13 Z2 ?_ ?_
 ·skip
  refine lB 0 H Z3 (q4 H hd6 (r1 13 Z (o_box H Z Z Z ?_)));intro b15 _ _ H
  refine q4 H hd6 (r1 14 Z (xbs H Z7 ?_));intro _ _ _ H
  refine q4 H hd6 (r1 15 Z ?_)
  have H:=H.tF 3
  refine xc Z2 (l_Insert_c _ _ H.sub _ _ _ (Sp.pl_le d3.kids nm3) oM _ (Nd.mk b15 nm3 x.dir x.ids []) H.lent2) ?_
  rintro _ _ ⟨_,_,_,rfl,H17',⟨_,rfl,rfl⟩⟩
  have ohri:=ohri.up H17'.le
  have ohNs:=ohNs.up H17'.le
  have hsr14:=hsr14.up H17'.le
  have hdo:=hdo.trans H17'.le
  have hd6:=hd6.trans H17'.le
  have H:=H.borrow2 H17'
  obtain⟨avAk,cvAk,rfl⟩:=H.accShape (k:=0) rfl
  refine⟨_,Z,?_⟩
  refine q4 H hd6 (dE 16 Z2 (dF 17 3 Z2 (r1 18 Z (xst 2 H Z8 ?_))));intro _ H
  refine q4 H hd6 (rz (N_K (q2 (aG Z (q3 (W_ret (rt1 results83 Z ?_)))))))
  have H:=H.sel [1,3,2,0] rfl
  have H:=H.inF
  have H:=H.tF 2
  have H:=H.tF 2
  obtain⟨Fs2,hp2,hN2⟩:=NdsO.ins (k:=Nd.mk b15 nm3 x.dir x.ids []) (Sp.pl d3.kids nm3) ohNs (NdO.new hnml3 hsr14)
  have hcd:=Nd.at_cnt (Nd.dirOf_some hdf3).2.2.1;have hcl:=Nd.kids_le d3;have hpl:=Sp.pl_le d3.kids nm3
  have hkl:(d3.kids.take (Sp.pl d3.kids nm3)++Nd.mk b15 nm3 x.dir x.ids []::d3.kids.drop (Sp.pl d3.kids nm3)).length=d3.kids.length+1:=by (simp;omega)
  obtain⟨F2,H,hN3,hb3⟩:=hclose (kids':=(d3.kids.take (Sp.pl d3.kids nm3)++Nd.mk b15 nm3 x.dir x.ids []::d3.kids.drop (Sp.pl d3.kids nm3))) (Fs':=Fs2) (by (rw[hkl]);exact H) (by (refine List.Perm.trans ?_ (List.Perm.append_right oR hp2.symm));simp) hdo ohri hN2 oM
  have hins:=Nd.ins_yes (nb:=b15) hdf3 (by simpa using hc5')
  exact H.retM ⟨b15,_,_,by (rw[hins];rfl),rfl,hN3,hb3,by (rw[hins];rfl)⟩
 skip
 refine o_box H Z Z Z ?_;intro b19 _ _ H
 refine q4 H hd6 ?_
 refine r2 4 14 Z2 ?_ ?_
 ·skip
  refine lB 1 H Z3 (q4 H hd6 (r1 14 Z (xbs H Z7 ?_)));intro _ _ _ H
  refine q4 H hd6 (r1 15 Z ?_)
  have H:=H.tF 3
  refine xc Z2 (l_Insert_c _ _ H.sub _ _ _ (Sp.pl_le d3.kids nm3) oM _ (Nd.mk b19 nm3 x.dir x.ids []) H.lent2) ?_
  rintro _ _ ⟨_,_,_,rfl,H21',⟨_,rfl,rfl⟩⟩
  have ohri:=ohri.up H21'.le
  have ohNs:=ohNs.up H21'.le
  have hsr14:=hsr14.up H21'.le
  have hdo:=hdo.trans H21'.le
  have hd6:=hd6.trans H21'.le
  have H:=H.borrow2 H21'
  obtain⟨avAk,cvAk,rfl⟩:=H.accShape (k:=0) rfl
  refine⟨_,Z,?_⟩
  refine q4 H hd6 (dE 16 Z2 (dF 17 3 Z2 (r1 18 Z (xst 2 H Z8 ?_))));intro _ H
  refine q4 H hd6 (rz (N_K (q2 (aG Z (q3 (W_ret (rt1 results83 Z ?_)))))))
  have H:=H.sel [1,3,2,0] rfl
  have H:=H.inF
  have H:=H.tF 2
  have H:=H.tF 2
  obtain⟨Fs2,hp2,hN2⟩:=NdsO.ins (k:=Nd.mk b19 nm3 x.dir x.ids []) (Sp.pl d3.kids nm3) ohNs (NdO.new hnml3 hsr14)
  have hcd:=Nd.at_cnt (Nd.dirOf_some hdf3).2.2.1;have hcl:=Nd.kids_le d3;have hpl:=Sp.pl_le d3.kids nm3
  have hkl:(d3.kids.take (Sp.pl d3.kids nm3)++Nd.mk b19 nm3 x.dir x.ids []::d3.kids.drop (Sp.pl d3.kids nm3)).length=d3.kids.length+1:=by (simp;omega)
  obtain⟨F2,H,hN3,hb3⟩:=hclose (kids':=(d3.kids.take (Sp.pl d3.kids nm3)++Nd.mk b19 nm3 x.dir x.ids []::d3.kids.drop (Sp.pl d3.kids nm3))) (Fs':=Fs2) (by (rw[hkl]);exact H) (by (refine List.Perm.trans ?_ (List.Perm.append_right oR hp2.symm));simp) hdo ohri hN2 oM
  have hins:=Nd.ins_yes (nb:=b19) hdf3 (by simpa using hc5')
  exact H.retM ⟨b19,_,_,by (rw[hins];rfl),rfl,hN3,hb3,by (rw[hins];rfl)⟩
 skip
 refine xbs H Z7 ?_;intro _ _ _ H
 refine q4 H hd6 (r1 4 Z (lB 2 H Z3 (q4 H hd6 (r1 15 Z ?_))))
 have H:=H.tF 3
 refine xc Z2 (l_Insert_c _ _ H.sub _ _ _ (Sp.pl_le d3.kids nm3) oM _ (Nd.mk b19 nm3 x.dir x.ids []) H.lent2) ?_
 rintro _ _ ⟨_,_,_,rfl,H24',⟨_,rfl,rfl⟩⟩
 have ohri:=ohri.up H24'.le
 have ohNs:=ohNs.up H24'.le
 have hsr14:=hsr14.up H24'.le
 have hdo:=hdo.trans H24'.le
 have hd6:=hd6.trans H24'.le
 have H:=H.borrow2 H24'
 obtain⟨avAk,cvAk,rfl⟩:=H.accShape (k:=0) rfl
 refine⟨_,Z,?_⟩
 refine q4 H hd6 (dE 16 Z2 (dF 17 3 Z2 (r1 18 Z (xst 2 H Z8 ?_))));intro _ H
 refine q4 H hd6 (rz (N_K (q2 (aG Z (q3 (W_ret (rt1 results83 Z ?_)))))))
 have H:=H.sel [1,3,2,0] rfl
 have H:=H.inF
 have H:=H.tF 2
 have H:=H.tF 2
 obtain⟨Fs2,hp2,hN2⟩:=NdsO.ins (k:=Nd.mk b19 nm3 x.dir x.ids []) (Sp.pl d3.kids nm3) ohNs (NdO.new hnml3 hsr14)
 have hcd:=Nd.at_cnt (Nd.dirOf_some hdf3).2.2.1;have hcl:=Nd.kids_le d3;have hpl:=Sp.pl_le d3.kids nm3
 have hkl:(d3.kids.take (Sp.pl d3.kids nm3)++Nd.mk b19 nm3 x.dir x.ids []::d3.kids.drop (Sp.pl d3.kids nm3)).length=d3.kids.length+1:=by (simp;omega)
 obtain⟨F2,H,hN3,hb3⟩:=hclose (kids':=(d3.kids.take (Sp.pl d3.kids nm3)++Nd.mk b19 nm3 x.dir x.ids []::d3.kids.drop (Sp.pl d3.kids nm3))) (Fs':=Fs2) (by (rw[hkl]);exact H) (by (refine List.Perm.trans ?_ (List.Perm.append_right oR hp2.symm));simp) hdo ohri hN2 oM
 have hins:=Nd.ins_yes (nb:=b19) hdf3 (by simpa using hc5')
 exact H.retM ⟨b19,_,_,by (rw[hins];rfl),rfl,hN3,hb3,by (rw[hins];rfl)⟩
theorem i_openTree_c (w0:World)(G0:PH)(hG:PSub G0 w0)(vlist:Value)(list:List (BItem))(hlist:RdItems G0 vlist list)(hLent:Lent w0 G0 []) :
  Calls Tryz.prog 45 #[vlist] w0 (RetM w0 G0 [] (fun G' v Bs=>(v= .tuple #[.pointer none,.bool false]∧Bs=[]∧Sp.TreeValid list=false)∨(∃(T:Nd) (F:Fr),v= .tuple #[.pointer (some ⟨T.b,0,none⟩),.bool true]∧Bs=[frag F]∧NdO 143 97 G' T F∧Nd.TOK T list∧Sp.TreeValid list=true))):=by
 obtain⟨alist,klist,rfl⟩:=hlist.shape
 have hlimlist:list.length≤1099511627776:=hlist.lim
 have H:Hp w0 G0 [] w0 G0 []:=hLent.hp
 refine calls_of_W (l:=[.slice alist list.length klist]) func45 Z ntmps45 Z (q2 (pe 2 Z (q3 (W_seq (q2 (mV Z (lN Z (pe 1 Z (q3 ?_)))))))))
 refine W_cond Z ?_ ?_
 ·intro hc1
  try simp only[nrm]at hc1
  refine q2 (pe 2 Z (q3 (W_ret (N_K_ret (rt2 results45 Z Z ?_)))))
  exact H.retM (.inl ⟨Z,Z,Nd.tv_long oM⟩)
 intro hc1'
 try simp only[nrm]at hc1'
 refine W_skip (N_K (q2 (o_build bf143 Z Z Z (o_box H Z Z Z ?_))));intro b2 _ _ H
 refine aG Z (q1 (aG Z (q3 (W_seq (q2 (mV Z (lN Z (mV Z (q3 (W_block ?_))))))))))
 have H:=H.addF
 have H:=H.tF 1
 have H:=H.inF
 have hN0:NdO 143 97 G0 (Nd.mk b2 [] true [] []) _:=NdO.new (by simp) (RdS.nil _ _ _)
 refine W_lp (hf:=(Sub.cons (t:=13) Z (Sub.cons (t:=14) Z Sub.nil))) (J:=fun M w m=>∃(k:Nat) (la:Bs) (T:Nd) (FT:Fr) (G:PH),M=[(15,.int .i64 (k:Int)),(5,str la),(4,.pointer (some ⟨T.b,0,none⟩))]∧PLe G0 G∧Hp w0 G0 [] w G [frag FT]∧(k≤list.length∧la=Nd.lastPath list k∧la.length≤16777216∧NdO 143 97 G T FT∧Nd.TOK T (list.take k))∧m=(list.length-k)) (h0:=⟨0,[],(Nd.mk b2 [] true [] []),_,_,Z,PLe.refl _,H,?inv,Z⟩) (round:=?round)
 case inv=>exact⟨by omega,rfl,by simp,hN0,Nd.tok_root _⟩
 case round =>
  rintro _ _ _ ⟨k,la,T,FT,_,rfl,hle3,H,hinv3,rfl⟩
  have hlist:=hlist.up hle3
  obtain⟨_,hla,_,hNT,hTok⟩:=hinv3
  refine q2 (pe 1 Z (q3 (W_seq ?_)))
  refine W_cond Z ?_ ?_
  ·intro hc4
   try simp only[nrm]at hc4
   refine W_skip (N_K (W_seq (W_block (q2 (iP k hlist Z3 Z ?_)))));intro _ _ z5 _ hz5 hE5 hrow5
   obtain⟨_,_,_,rfl,hi5,hr5,_,_⟩:=ox hE5
   refine o_loadagg_P H isAgg66 sizeOf66 Z Z hrow5 Z (xal H Z ?_);intro _ _ _ H
   refine xst 0 H Z8 ?_;intro _ H
   refine q3 (W_seq (q2 (fA 0 Z (lB 0 H Z3 (mV Z (o_sleq Z Z Z (mV Z ?_)))))))
   refine R_case (t:=23) Z ?_ ?_
   ·intro hc8
    try simp only[nrm]at hc8
    refine pe 10 Z (q3 (W_true Z (q2 (pe 2 Z (q3 (W_ret (N_K_ret (N_B_ret (N_K_ret (N_LP_ret (N_B_ret (N_K_ret (rt2 results45 Z Z ?_)))))))))))))
    have H:=H.dl 0
    have H:=H.dl 0
    exact H.retM (.inl ⟨rfl,rfl,Nd.tv_false 0 hTok hz5 (.inl (by (rw[←hla]);exact Nd.leq_no (by first|simpa using hc8|(simp at hc8;exact hc8.symm))))⟩)
   intro hc8'
   try simp only[nrm]at hc8'
   refine gR Z (lA 0 3 H Z4 (gR Z (xr H Z2 (i_itemValid_c _ _ H.sub _ _ ⟨_,_,_,Z,hi5,hr5⟩) ?_)));intro _ H
   refine pe 3 Z ?_
   refine R_case (t:=28) Z ?_ ?_
   ·intro hc10
    try simp only[nrm]at hc10
    refine pe 5 Z (q3 (W_true Z (q2 (pe 2 Z (q3 (W_ret (N_K_ret (N_B_ret (N_K_ret (N_LP_ret (N_B_ret (N_K_ret (rt2 results45 Z Z ?_)))))))))))))
    have H:=H.dl 0
    have H:=H.dl 0
    exact H.retM (.inl ⟨rfl,rfl,Nd.tv_false 0 hTok hz5 (.inr (.inl (by simpa using hc10)))⟩)
   intro hc10'
   try simp only[nrm]at hc10'
   refine pe 1 Z (gR Z (lA 0 3 H Z4 (gR Z ?_)))
   have H:=H.tF 1
   refine xc Z2 (i_insert_c _ _ H.sub _ _ hNT _ _ ⟨_,_,_,Z,hi5,hr5⟩ H.lent1 hTok.wf (by have:=hTok.cnt;simp at this;omega)) ?_
   rintro _ _ ⟨_,_,_,rfl,H11',⟨nb11,F11,t11,rfl,rfl,hN11,hb11,ht11⟩⟩
   have hle3:=hle3.trans H11'.le
   have H:=H.borrow1 H11'
   try rw[←hb11]
   refine⟨_,Z,?_⟩
   refine pe 2 Z (q3 ?_)
   refine W_cond Z ?_ ?_
   ·intro hc12
    try simp only[nrm]at hc12
    refine q2 (pe 2 Z (q3 (W_ret (N_K_ret (N_B_ret (N_K_ret (N_LP_ret (N_B_ret (N_K_ret (rt2 results45 Z Z ?_))))))))))
    have H:=H.dl 0
    have H:=H.dl 0
    exact H.retM (.inl ⟨rfl,rfl,Nd.tv_false nb11 hTok hz5 (.inr (.inr (by simpa using hc12)))⟩)
   intro hc12'
   try simp only[nrm]at hc12'
   refine W_skip (N_K (W_region (fA 0 Z (lB 1 H Z3 (aG Z (R_nil (N_B (N_K (W_region (aD Z2 (mV Z (R_nil ?_))))))))))))
   have H:=H.dl 1
   refine N_lp (hJ:=⟨k+1,z5.path,t11,F11,_,Z,hle3,H,?inv,Z⟩) (hm:=?hm)
   case hm=>omega
   case inv=>exact⟨by omega,(Nd.lastPath_succ hz5).symm,by assumption,hN11,Nd.open_step hTok hz5 oM (by (rw[←hla]);exact Nd.leq_yes hc8'.1 hc8'.2) (by simpa using hc10') (Nd.getD_some ht11 (by simpa using hc12'))⟩
  intro hc4'
  try simp only[nrm]at hc4'
  refine W_exit (N_K_exit (N_LP_exit (N_B_same (N_K (q2 (pe 3 Z (q3 (W_ret (rt2 results45 Z Z ?_)))))))))
  have hTl:Nd.TOK T list:=by (have h9:=hTok;rw[List.take_of_length_le oM]at h9;exact h9)
  exact H.retM (.inr ⟨T,_,Z,Z,hNT,hTl,hTl.valid⟩)
theorem i_keep_c (w0:World)(G0:PH)(hG:PSub G0 w0)(mbs:Nat)(ess:Array MapEntry)(cks:Nat)(xss:List (Int×Value))(Ls:List BHeld)(hms:MapIs (Value.int .i64) ess cks xss)(hSs:StR G0 xss Ls)(hVs:Sp.VH Ls)(id:Int)(hLent:Lent w0 G0 [blk mbs (.map ess cks)]) :
  Calls Tryz.prog 133 #[.map (some mbs),.int .i64 id] w0 (RetM w0 G0 [mbs] (fun G' v Bs=>∃(es':Array MapEntry) (ck':Nat) (xs':List (Int×Value)) (L':List BHeld),v= .bool (Sp.StoreKeep Ls id).isSome∧Bs=[blk mbs (.map es' ck')]∧MapIs (Value.int .i64) es' ck' xs'∧StR G' xs' L'∧Sp.VH L'∧L'=(Sp.StoreKeep Ls id).getD Ls)):=by
 have H:Hp w0 G0 [mbs] w0 G0 [blk mbs (.map ess cks)]:=hLent.hp
 refine calls_of_W (l:=[.map (some mbs),.int .i64 id]) func133 Z ntmps133 Z (q2 (aG Z (q1 (pe 2 Z (o_lookS2 (H.at (k:=0) Z) hms hSs underlying96 underlying3 zeroValue134 Z Z Z ?_)))));intro _ hE1
 obtain⟨_,_,_,rfl,_,hr1,_,_,_⟩:=ox hE1
 have hfnd:True:=trivial
 refine pe 3 Z (xal H Z ?_);intro _ _ _ H
 refine xst 0 H Z8 ?_;intro _ H
 refine aG Z (q3 (W_seq (q2 (pe 3 Z ?_))))
 refine R_case (t:=15) Z ?_ ?_
 ·intro hc4
  try simp only[nrm]at hc4
  refine pe 4 Z (q3 (W_true Z (q2 (aG Z (q3 (W_ret (N_K_ret (rt1 results133 Z ?_))))))))
  have H:=H.dl 0
  exact H.retM ⟨_,_,_,_,congrArg Value.bool (by rw[Sp.keep_no hVs (.inl (by simpa using hc4))];rfl),rfl,hms,hSs,hVs,by rw[Sp.keep_no hVs (.inl (by simpa using hc4))];rfl⟩
 intro hc4'
 try simp only[nrm]at hc4'
 have hfd:(Sp.atH Ls id).isSome=true:=by simpa using hc4'
 have hgo:=Sp.get_ok hVs hfd
 refine gR Z (fA 2 Z (gR Z (lB 0 H Z3 (pe 2 Z (q3 ?_)))))
 refine W_cond Z ?_ ?_
 ·intro hc5
  try simp only[nrm]at hc5
  refine q2 (aG Z (q3 (W_ret (N_K_ret (rt1 results133 Z ?_)))))
  have H:=H.dl 0
  exact H.retM ⟨_,_,_,_,congrArg Value.bool (by rw[Sp.keep_no hVs (.inr oM)];rfl),rfl,hms,hSs,hVs,by rw[Sp.keep_no hVs (.inr oM)];rfl⟩
 intro hc5'
 try simp only[nrm]at hc5'
 have hkg:=Sp.keep_get hVs hfd oM
 refine W_skip (N_K (q2 (fA 2 Z (lB 0 H Z3 (aD Z2 (fA 2 Z (xst 0 H Z8 ?_)))))));intro _ H
 refine q1 (pe 2 Z (lA 0 3 H Z4 ?_))
 refine o_updS 1 H ⟨(getH Ls id).id,(getH Ls id).bytes,(getH Ls id).uses+1⟩ Z hms hSs underlying96 underlying3 Z Z Z (show heldE G0 ⟨(getH Ls id).id,(getH Ls id).bytes,(getH Ls id).uses+1⟩ _ from⟨_,_,_,Z,⟨by first|omega|(dsimp only;omega),by first|omega|(dsimp only;omega)⟩,hr1,⟨by first|omega|(dsimp only;omega),by first|omega|(dsimp only;omega)⟩⟩) (by exact Sp.get_id hfd) ?_;intro _ _ _ _ H hm8 hS8
 refine q1 (aG Z (q3 (W_ret (rt1 results133 Z ?_))))
 have H:=H.dl 0
 exact H.retM ⟨_,_,_,_,congrArg Value.bool (by rw[hkg.1];rfl),rfl,hm8,hS8,hkg.2,by rw[hkg.1];rfl⟩
theorem i_drop_c (w0:World)(G0:PH)(hG:PSub G0 w0)(mbs:Nat)(ess:Array MapEntry)(cks:Nat)(xss:List (Int×Value))(Ls:List BHeld)(hms:MapIs (Value.int .i64) ess cks xss)(hSs:StR G0 xss Ls)(hVs:Sp.VH Ls)(id:Int)(hLent:Lent w0 G0 [blk mbs (.map ess cks)]) :
  Calls Tryz.prog 134 #[.map (some mbs),.int .i64 id] w0 (RetM w0 G0 [mbs] (fun G' v Bs=>∃(es':Array MapEntry) (ck':Nat) (xs':List (Int×Value)) (L':List BHeld),v= .bool (Sp.StoreDrop Ls id).isSome∧Bs=[blk mbs (.map es' ck')]∧MapIs (Value.int .i64) es' ck' xs'∧StR G' xs' L'∧Sp.VH L'∧L'=(Sp.StoreDrop Ls id).getD Ls)):=by
 have H:Hp w0 G0 [mbs] w0 G0 [blk mbs (.map ess cks)]:=hLent.hp
 refine calls_of_W (l:=[.map (some mbs),.int .i64 id]) func134 Z ntmps134 Z (q2 (aG Z (q1 (pe 2 Z (o_lookS2 (H.at (k:=0) Z) hms hSs underlying96 underlying3 zeroValue134 Z Z Z ?_)))));intro _ hE1
 obtain⟨_,_,_,rfl,_,hr1,_,_,_⟩:=ox hE1
 refine pe 3 Z (xal H Z ?_);intro _ _ _ H
 refine xst 0 H Z8 ?_;intro _ H
 refine aG Z (q3 (W_seq (q2 (pe 2 Z (q3 ?_)))))
 refine W_cond Z ?_ ?_
 ·intro hc4
  try simp only[nrm]at hc4
  refine q2 (aG Z (q3 (W_ret (N_K_ret (rt1 results134 Z ?_)))))
  have H:=H.dl 0
  exact H.retM ⟨_,_,_,_,congrArg Value.bool (by rw[Sp.drop_no (by simpa using hc4)];rfl),rfl,hms,hSs,hVs,by rw[Sp.drop_no (by simpa using hc4)];rfl⟩
 intro hc4'
 try simp only[nrm]at hc4'
 have hfd:(Sp.atH Ls id).isSome=true:=by simpa using hc4'
 have hgo:=Sp.get_ok hVs hfd
 refine W_skip (N_K (W_seq (q2 (fA 2 Z (lB 0 H Z3 (pe 1 Z (q3 ?_)))))))
 refine W_cond Z ?_ ?_
 ·intro hc5
  try simp only[nrm]at hc5
  have hkg:=Sp.drop_get1 hVs hfd hc5
  refine q2 (pe 2 Z (o_delS 1 H Z hms hSs underlying96 underlying3 Z Z ?_));intro _ _ _ _ H hm6 hS6
  refine q1 (aG Z (q3 (W_ret (N_K_ret (rt1 results134 Z ?_)))))
  have H:=H.dl 0
  exact H.retM ⟨_,_,_,_,congrArg Value.bool (by rw[hkg.1];rfl),rfl,hm6,hS6,hkg.2,by rw[hkg.1];rfl⟩
 intro hc5'
 try simp only[nrm]at hc5'
 have hkg:=Sp.drop_get2 hVs hfd hc5'
 refine W_skip (N_K (q2 (fA 2 Z (lB 0 H Z3 (o_sub Z Z Z oO (fA 2 Z (xst 0 H Z8 ?_)))))));intro _ H
 refine q1 (pe 2 Z (lA 0 3 H Z4 ?_))
 refine o_updS 1 H ⟨(getH Ls id).id,(getH Ls id).bytes,(getH Ls id).uses-1⟩ Z hms hSs underlying96 underlying3 Z Z Z (show heldE G0 ⟨(getH Ls id).id,(getH Ls id).bytes,(getH Ls id).uses-1⟩ _ from⟨_,_,_,Z,⟨by first|omega|(dsimp only;omega),by first|omega|(dsimp only;omega)⟩,hr1,⟨by first|omega|(dsimp only;omega),by first|omega|(dsimp only;omega)⟩⟩) (by exact Sp.get_id hfd) ?_;intro _ _ _ _ H hm9 hS9
 refine q1 (aG Z (q3 (W_ret (rt1 results134 Z ?_))))
 have H:=H.dl 0
 exact H.retM ⟨_,_,_,_,congrArg Value.bool (by rw[hkg.1];rfl),rfl,hm9,hS9,hkg.2,by rw[hkg.1];rfl⟩
theorem i_find_c (w0:World)(G0:PH)(hG:PSub G0 w0)(mbs:Nat)(ess:Array MapEntry)(cks:Nat)(xss:List (Int×Value))(Ls:List BHeld)(hbs:MapAt G0 mbs ess cks)(hms:MapIs (Value.int .i64) ess cks xss)(hSs:StR G0 xss Ls)(hVs:Sp.VH Ls)(vbytes:Value)(bytes:List (Int))(hbytes:RdI G0 vbytes bytes) :
  Calls Tryz.prog 182 #[.map (some mbs),vbytes] w0 (Rets w0 (.int .i64 (Sp.findId Ls bytes))):=by
 obtain⟨abytes,kbytes,rfl⟩:=hbytes.shape
 have hlimbytes:bytes.length≤1099511627776:=hbytes.lim
 have H:=Hp.init hG
 refine calls_of_W (l:=[.map (some mbs),.slice abytes bytes.length kbytes]) func182 Z ntmps182 Z (q2 (aG Z (q3 (W_seq (q2 (mV Z ?_))))))
 have hmb1:=(hbs.at H.sub);refine o_range H hmb1 underlying96 rfl rfl ?_;intro r1 _ _ H _;have hne1:r1≠mbs:=fun e=>by have:=(Array.getElem?_eq_some_iff.1 hmb1).1;omega
 refine q3 (W_block ?_)
 refine W_lp (hf:=(Sub.cons (t:=1) Z (Sub.cons (t:=8) Z Sub.nil))) (J:=fun M w m=>∃(sn:Array Nat) (G:PH),M=[]∧PLe G0 G∧Hp w0 G0 [] w G [blk r1 (.mapIter (some mbs) cks sn cks)]∧(∀y,y ∈ Ls→seenH ess sn y→Sp.l2Same y.bytes bytes=false)∧m=((leftOf ess sn).size)) (h0:=⟨#[],_,Z,PLe.refl _,H,?inv,Z⟩) (round:=?round)
 case inv=>rintro y hy ⟨e,_,_,he⟩;simp at he
 case round =>
  rintro _ _ _ ⟨sn,_,rfl,hle2,H,hinv2,rfl⟩
  have hSs:=hSs.up hle2
  have hbs:=hbs.up hle2
  have hbytes:=hbytes.up hle2
  have hsn:=hinv2
  refine q2 ?_
  refine o_next 0 H (hbs.at H.sub) hms hSs Z hne1 Z Z ?_ ?_
  ·intro hall3
   refine pe 1 Z (q3 (W_seq (W_false Z (W_exit (N_K_exit (N_LP_exit (N_B_same (N_K (q2 (aG Z (q3 (W_ret (rt1 results182 Z ?_)))))))))))))
   exact H.rets (congrArg (Value.int .i64) (by rw[Sp.findId_none (fun y hy=>hsn y hy (hall3 y hy))]))
  intro _ _ _ _ he3 hk3 hv3 hy3 hE3 _ hless3 H
  obtain⟨_,_,_,rfl,_,hr3,_,_,_⟩:=ox hE3
  refine pe 1 Z (q3 (W_seq (W_true Z (W_skip (N_K (W_block (q2 (o_entry 0 H (hbs.at H.sub) hms Z he3 hk3 hv3 Z Z (pe 2 Z (xal H Z ?_))))))))));intro _ _ _ H
  refine aG Z (xst 0 H Z8 ?_);intro _ H
  refine q1 (fA 1 Z (lB 0 H Z3 (mV Z (xr H Z2 (l_Equal_c _ _ H.sub _ _ hr3 _ _ hbytes) ?_))));intro _ H
  refine q3 ?_
  refine W_cond Z ?_ ?_
  ·intro hc7
   try simp only[nrm]at hc7
   refine q2 (pe 2 Z (q3 (W_ret (N_B_ret (N_LP_ret (N_B_ret (N_K_ret (rt1 results182 Z ?_))))))))
   exact H.rets (congrArg (Value.int .i64) (by rw[Sp.findId_some hVs hy3 hc7]))
  intro hc7'
  try simp only[nrm]at hc7'
  refine W_skip (N_B ?_)
  have H:=H.dl 0
  refine N_lp (hJ:=⟨_,_,Z,hle2,H,?inv,Z⟩) (hm:=?hm)
  case hm=>exact hless3
  case inv=>intro y hy hs;rcases seenH_push hms (hSs.nd hms) he3 hk3 hy3 hy hs with rfl|h;(· exact hc7');exact hsn y hy h
theorem i_put_c (w0:World)(G0:PH)(hG:PSub G0 w0)(mbs:Nat)(ess:Array MapEntry)(cks:Nat)(xss:List (Int×Value))(Ls:List BHeld)(hms:MapIs (Value.int .i64) ess cks xss)(hSs:StR G0 xss Ls)(hVs:Sp.VH Ls)(vbytes:Value)(bytes:List (Int))(hbytes:RdI G0 vbytes bytes)(hLent:Lent w0 G0 [blk mbs (.map ess cks)])(hB:Sp.BlockValid bytes=true) :
  Calls Tryz.prog 170 #[.map (some mbs),vbytes] w0 (RetM w0 G0 [mbs] (fun G' v Bs=>∃(es':Array MapEntry) (ck':Nat) (xs':List (Int×Value)) (L':List BHeld) (i:Int),v= .tuple #[.int .i64 i,.bool (Sp.StorePut Ls bytes).isSome]∧Bs=[blk mbs (.map es' ck')]∧MapIs (Value.int .i64) es' ck' xs'∧StR G' xs' L'∧Sp.VH L'∧L'=((Sp.StorePut Ls bytes).map (·.1)).getD Ls∧inI i∧∀r,Sp.StorePut Ls bytes=some r→r.2=i)):=by
 obtain⟨abytes,kbytes,rfl⟩:=hbytes.shape
 have hlimbytes:bytes.length≤1099511627776:=hbytes.lim
 have hfin:=Sp.findId_in hVs bytes
 have H:Hp w0 G0 [mbs] w0 G0 [blk mbs (.map ess cks)]:=hLent.hp
 refine calls_of_W (l:=[.map (some mbs),.slice abytes bytes.length kbytes]) func170 Z ntmps170 Z (q2 (pe 2 Z (q3 (W_seq (q2 (pe 2 Z (xr H Z2 (i_find_c _ _ (H.lendSubL [0]) _ _ _ _ _ (H.lendPredL (k:=0) (ks:=[0]) Z Z) hms (hSs.up (PPlus.le _ _ _)) hVs _ _ (hbytes.up (PPlus.le _ _ _))) ?_)))))));intro _ H
 refine aG Z (q1 (pe 2 Z (q3 ?_)))
 refine W_cond Z ?_ ?_
 ·intro hc2
  try simp only[nrm]at hc2
  obtain⟨_,_,hp1,hp2,hp3⟩:=Sp.findId_ne hVs hc2
  have hpo:=Sp.put_old hVs hB hp1 hp2
  rw[←hp3]at hpo
  refine q2 (pe 3 Z (xc Z2 (i_keep_c _ _ H.sub _ _ _ _ _ hms hSs hVs _ H.lent1) ?_))
  rintro _ _ ⟨_,_,_,rfl,H3',⟨_,_,_,_,rfl,rfl,hm3,hS3,hV3,hL3⟩⟩
  have H:=H.borrow1 H3'
  refine⟨_,Z,?_⟩
  refine pe 2 Z (q3 (W_ret (N_K_ret (rt2 results170 Z Z ?_))))
  exact H.retM ⟨_,_,_,_,Sp.findId Ls bytes,congrArg (fun b=>Value.tuple #[Value.int .i64 (Sp.findId Ls bytes),Value.bool b]) (by rw[hpo,Option.isSome_map]),rfl,hm3,hS3,hV3,(by rw[hL3,hpo];cases Sp.StoreKeep Ls (Sp.findId Ls bytes)<;>rfl),oO,fun r hr=>by rw[hpo]at hr;cases hk:Sp.StoreKeep Ls (Sp.findId Ls bytes) with |none=>rw[hk]at hr;cases hr|some l=>(rw[hk]at hr;cases hr;rfl)⟩
 intro hc2'
 try simp only[nrm]at hc2'
 have hnl:=Sp.findId_eq hVs hc2'
 refine W_skip (N_K (W_seq (q2 (mV Z ?_))))
 have hml4:=hSs.len
 refine o_lenM (H.at (k:=0) Z) hms underlying96 Z Z (pe 1 Z (q3 ?_))
 refine W_cond Z ?_ ?_
 ·intro hc5
  try simp only[nrm]at hc5
  refine q2 (pe 2 Z (q3 (W_ret (N_K_ret (rt2 results170 Z Z ?_)))))
  exact H.retM ⟨_,_,_,_,0,congrArg (fun b=>Value.tuple #[Value.int .i64 (0),Value.bool b]) (by rw[Sp.put_full hnl oM];rfl),rfl,hms,hSs,hVs,(by rw[Sp.put_full hnl oM];rfl),by decide,fun r hr=>by rw[Sp.put_full hnl oM]at hr;cases hr⟩
 intro hc5'
 try simp only[nrm]at hc5'
 refine W_skip (N_K (q2 (aG Z (q3 (W_seq (W_block ?_))))))
 refine W_lp (hf:=(Sub.cons (t:=0) Z (Sub.cons (t:=1) Z (Sub.cons (t:=4) Z (Sub.cons (t:=5) Z Sub.nil))))) (J:=fun M w m=>∃(k:Nat) (G:PH),M=[(7,.int .i64 ((k:Int)+1))]∧PLe G0 G∧Hp w0 G0 [mbs] w G [blk mbs (.map ess cks)]∧(∀j:Nat,j<k→(Sp.atH Ls ((j:Int)+1)).isSome=true)∧m=(Ls.length+1-k)) (h0:=⟨0,_,Z,PLe.refl _,H,?inv,Z⟩) (round:=?round)
 case inv=>exact fun j hj=>by omega
 case round =>
  rintro _ _ _ ⟨k,_,rfl,hle6,H,hinv6,rfl⟩
  have hSs:=hSs.up hle6
  have hbytes:=hbytes.up hle6
  have hall:=hinv6;have hkl:=Sp.free_le hall;have hv16:=hVs.len
  refine W_seq (q2 (pe 2 Z (o_lookS (H.at (k:=0) Z) hms hSs underlying96 underlying3 zeroValue134 Z Z Z ?_)));intro _ hE7
  obtain⟨_,_,_,rfl,_,hr7,_,_,_⟩:=ox hE7
  refine o_field 2 runUnderlying134 Z Z Z isAgg3 Z Z Z (pe 1 Z (q3 ?_))
  refine W_cond Z ?_ ?_
  ·intro hc8
   try simp only[nrm]at hc8
   refine W_skip (N_K (W_block (W_region (mV Z (aD Z2 (aG Z (R_nil (N_B ?_))))))))
   refine N_lp (hJ:=⟨k+1,_,Z,hle6,H,?inv,Z⟩) (hm:=?hm)
   case hm=>omega
   case inv=>exact Sp.upto_succ (p:=fun j:Nat=>(Sp.atH Ls ((j:Int)+1)).isSome) hall (Sp.uses_some hc8)
  intro hc8'
  try simp only[nrm]at hc8'
  refine W_exit (N_K_exit (N_LP_exit (N_B_same (N_K (q2 (pe 4 Z (xc Z2 (l_Clone_c _ _ H.sub _ _ hbytes) ?_)))))))
  rintro _ _ ⟨_,_,_,g10,rfl,⟨_,rfl,hchk10⟩,hp10,hq10,hs10⟩
  have H:=H.growO g10 hp10 hq10 hs10;obtain⟨_,_,rfl⟩:=H.accShape (k:=0) rfl
  have hSs:=hSs.up g10.le
  refine⟨_,Z,?_⟩
  refine o_build bf134 Z Z Z ?_
  obtain⟨G12,H,hsg12,hsr12⟩:=H.shutL (k:=0) rfl (H.apart (k:=0) (ks:=[1]) rfl rfl (by intro b hb;simpa [fpsAt,nth,blk] using hb)) hchk10 aN aN
  have hSs:=hSs.up hsg12
  refine o_updS 0 H ⟨(k:Int)+1,bytes,1⟩ Z hms hSs underlying96 underlying3 Z Z Z (show heldE G12 ⟨(k:Int)+1,bytes,1⟩ _ from⟨_,_,_,Z,⟨by first|omega|(dsimp only;omega),by first|omega|(dsimp only;omega)⟩,hsr12,⟨by first|omega|(dsimp only;omega),by first|omega|(dsimp only;omega)⟩⟩) rfl ?_;intro _ _ _ _ H hm11 hS11
  refine q1 (pe 3 Z (q3 (W_ret (rt2 results170 Z Z ?_))))
  have hfe:=Sp.free_eq hall (Sp.uses_none hVs (by simpa using hc8'))
  have hpn:=Sp.put_new hVs hB hnl oM
  exact H.retM ⟨_,_,_,_,(k:Int)+1,congrArg (fun b=>Value.tuple #[Value.int .i64 ((k:Int)+1),Value.bool b]) (by rw[hpn];rfl),rfl,hm11,(hS11.perm (Sp.put_perm bytes hfe)),Sp.with_valid hVs hB hnl oM,(by rw[hpn];rfl),oO,fun r hr=>by rw[hpn]at hr;cases hr;simp only[];omega⟩
theorem i_fileIds_c (w0:World)(G0:PH)(hG:PSub G0 w0)(mbs:Nat)(ess:Array MapEntry)(cks:Nat)(xss:List (Int×Value))(Ls:List BHeld)(hbs:MapAt G0 mbs ess cks)(hms:MapIs (Value.int .i64) ess cks xss)(hSs:StR G0 xss Ls)(hVs:Sp.VH Ls)(vids:Value)(ids:List (Int))(hids:RdI G0 vids ids) :
  Calls Tryz.prog 84 #[.map (some mbs),vids] w0 (Rets w0 (.bool (Sp.l4Ids Ls ids))):=by
 obtain⟨aids,kids,rfl⟩:=hids.shape
 have hlimids:ids.length≤1099511627776:=hids.lim
 have H:=Hp.init hG
 refine calls_of_W (l:=[.map (some mbs),.slice aids ids.length kids]) func84 Z ntmps84 Z (q2 (aG Z (q3 (W_seq (q2 (mV Z (lN Z (pe 1 Z (q3 ?_)))))))))
 refine W_cond Z ?_ ?_
 ·intro hc1
  try simp only[nrm]at hc1
  refine q2 (aG Z (q3 (W_ret (N_K_ret (rt1 results84 Z ?_)))))
  exact H.rets (congrArg Value.bool (by rw[Sp.ids_long oM]))
 intro hc1'
 try simp only[nrm]at hc1'
 refine W_skip (N_K (W_seq (q2 (mV Z (lN Z (mV Z (q3 (W_block ?_))))))))
 refine W_lp (hf:=(Sub.cons (t:=0) Z (Sub.cons (t:=1) Z (Sub.cons (t:=12) Z (Sub.cons (t:=13) Z Sub.nil))))) (J:=fun M w m=>∃(k:Nat) (G:PH),M=[(14,.int .i64 (k:Int))]∧PLe G0 G∧Hp w0 G0 [] w G []∧(k≤ids.length∧∀j,j<k→Sp.idsOk Ls ids j=true)∧m=(ids.length-k)) (h0:=⟨0,_,Z,PLe.refl _,H,?inv,Z⟩) (round:=?round)
 case inv=>exact⟨by omega,fun j hj=>by omega⟩
 case round =>
  rintro _ _ _ ⟨k,_,rfl,hle2,H,hinv2,rfl⟩
  have hSs:=hSs.up hle2
  have hbs:=hbs.up hle2
  have hids:=hids.up hle2
  obtain⟨_,hall⟩:=hinv2
  refine q2 (pe 1 Z (q3 (W_seq ?_)))
  refine W_cond Z ?_ ?_
  ·intro hc3
   try simp only[nrm]at hc3
   refine W_skip (N_K (W_seq (W_block (q2 (mV Z (iP k hids Z3 Z ?_))))));intro _ _ z4 _ hz4 hE4 hrow4
   obtain⟨rfl,_⟩:=hE4
   refine lP H hrow4 0 Z2 (pe 2 Z (q1 (pe 2 Z (o_lookS2 (hbs.at H.sub) hms hSs underlying96 underlying3 zeroValue134 Z Z Z ?_))));intro _ hE5
   obtain⟨_,_,_,rfl,_,_,_,_,_⟩:=ox hE5
   refine pe 3 Z (xal H Z ?_);intro _ _ _ H
   refine xst 0 H Z8 ?_;intro _ H
   refine aG Z (q1 (pe 3 Z ?_))
   refine R_case (t:=27) Z ?_ ?_
   ·intro hc8
    try simp only[nrm]at hc8
    refine pe 6 Z (R_pass Z (yl_un Z Z) (R_pass Z (yl_un Z Z) (R_pass Z (yl_un Z Z) (R_pass Z (yl_un Z Z) (pe 2 Z (q3 (W_true Z (q2 (aG Z (q3 (W_ret (N_B_ret (N_K_ret (N_LP_ret (N_B_ret ?_)))))))))))))))
    refine N_K_ret (rt1 results84 Z ?_)
    exact H.rets (congrArg Value.bool (by rw[Sp.ids_false (k:=k) oM (by exact Sp.idsOk_no hz4 (by simpa using hc8))]))
   intro hc8'
   try simp only[nrm]at hc8'
   have hfd:(Sp.atH Ls z4).isSome=true:=by simpa using hc8'
   have hbl:=Sp.bv_len (Sp.get_ok hVs hfd).2.1
   have hio:=Sp.idsOk_get hz4 hfd
   refine pe 2 Z (gR Z (lN Z (gR Z (o_sub Z Z Z oO (pe 2 Z ?_)))))
   refine R_case (t:=33) Z ?_ ?_
   ·intro hc10
    try simp only[nrm]at hc10
    refine gR Z (fA 1 Z (gR Z (lB 0 H Z3 (gR Z (lN Z (pe 3 Z (q3 ?_)))))))
    refine W_cond Z ?_ ?_
    ·intro hc11
     try simp only[nrm]at hc11
     refine q2 (aG Z (q3 (W_ret (N_B_ret (N_K_ret (N_LP_ret (N_B_ret (N_K_ret (rt1 results84 Z ?_)))))))))
     exact H.rets (congrArg Value.bool (by rw[Sp.ids_false (k:=k) oM (by rw[hio];simp;omega)]))
    intro hc11'
    try simp only[nrm]at hc11'
    refine W_skip (N_B (N_K (W_region (aD Z2 (mV Z (R_nil ?_))))))
    have H:=H.dl 0
    refine N_lp (hJ:=⟨k+1,_,Z,hle2,H,?inv,Z⟩) (hm:=?hm)
    case hm=>omega
    case inv=>exact⟨by omega,Sp.upto_succ hall (by rw[hio];simp;omega)⟩
   intro hc10'
   try simp only[nrm]at hc10'
   refine pe 6 Z (q3 (W_false Z (W_skip (N_B (N_K (W_region (aD Z2 (mV Z (R_nil ?_)))))))))
   have H:=H.dl 0
   refine N_lp (hJ:=⟨k+1,_,Z,hle2,H,?inv,Z⟩) (hm:=?hm)
   case hm=>omega
   case inv=>exact⟨by omega,Sp.upto_succ hall (by rw[hio];simp;omega)⟩
  intro hc3'
  try simp only[nrm]at hc3'
  refine W_exit (N_K_exit (N_LP_exit (N_B_same (N_K (q2 (aG Z (q3 (W_ret (rt1 results84 Z ?_)))))))))
  exact H.rets (congrArg Value.bool (by rw[Sp.ids_true (fun j hj=>hall j oM) oM]))
theorem i_loadFile_c (w0:World)(G0:PH)(hG:PSub G0 w0)(mbs:Nat)(ess:Array MapEntry)(cks:Nat)(xss:List (Int×Value))(Ls:List BHeld)(hbs:MapAt G0 mbs ess cks)(hms:MapIs (Value.int .i64) ess cks xss)(hSs:StR G0 xss Ls)(hVs:Sp.VH Ls)(vids:Value)(ids:List (Int))(hids:RdI G0 vids ids) :
  Calls Tryz.prog 52 #[.map (some mbs),vids] w0 (RetN w0 G0 (fun v Bs=>∃(u:Value) (c:List Value) (xs:List Int),v= .tuple #[u,.bool (Sp.l4Ids Ls ids)]∧Bs=[acc 3 1 u xs.length c]∧Chk intE 1 (fun _=>none) c xs∧xs.length≤1000∧(Sp.l4Ids Ls ids=true→xs=Sp.load Ls ids)∧(Sp.l4Ids Ls ids=false→xs=[]))):=by
 obtain⟨aids,kids,rfl⟩:=hids.shape
 have hlimids:ids.length≤1099511627776:=hids.lim
 have H:=Hp.init hG
 refine calls_of_W (l:=[.map (some mbs),.slice aids ids.length kids]) func52 Z ntmps52 Z (q2 (pe 2 Z (q3 (W_seq (q2 (pe 2 Z (xr H Z2 (i_fileIds_c _ _ H.sub _ _ _ _ _ hbs hms hSs hVs _ _ hids) ?_)))))));intro _ H
 refine pe 1 Z (q3 ?_)
 refine W_cond Z ?_ ?_
 ·intro hc2
  try simp only[nrm]at hc2
  refine q2 (pe 2 Z (q3 (W_ret (N_K_ret (rt2 results52 Z Z ?_)))))
  have H:=H.addNil 3 1
  have H:=H.forget hG (by simp)
  exact⟨_,_,rfl,H,_,_,_,congrArg (fun b=>Value.tuple #[_,Value.bool b]) (show _=Sp.l4Ids Ls ids by rw[hc2]),acc_1 aN,chkI ((Chk.nil (E:=intE) (sz:=1) (G:=G0))),by simp,fun h=>(by rw[hc2]at h;cases h),fun _=>rfl⟩
 intro hc2'
 try simp only[nrm]at hc2'
 have hi4:=Sp.ids_le (by simpa using hc2')
 refine W_skip (N_K (q2 (aG Z (q3 (W_seq (q2 (mV Z (lN Z (mV Z (q3 (W_block ?_)))))))))))
 have H:=H.addNil 3 1
 refine W_lp (hf:=(Sub.cons (t:=0) Z (Sub.cons (t:=4) Z (Sub.cons (t:=5) Z (Sub.cons (t:=13) Z (Sub.cons (t:=14) Z Sub.nil)))))) (J:=fun M w m=>∃(v:Value) (n:Nat) (cs:List Value) (xs:List (Int)) (k:Nat) (G:PH),M=[(15,.int .i64 (k:Int)),(6,v)]∧PLe G0 G∧Hp w0 G0 [] w G [acc 3 1 v n cs]∧(Chk intE 1 G cs xs∧n=xs.length∧k≤ids.length∧xs=Sp.load Ls (ids.take k)∧xs.length≤8*k)∧m=(ids.length-k)) (h0:=⟨_,_,_,[],0,_,Z,PLe.refl _,H,?inv,Z⟩) (round:=?round)
 case inv=>exact⟨(Chk.nil (E:=intE) (sz:=1) (G:=G0)),by first|rfl|simp|(simp;omega)|omega,(by simp[Sp.load])⟩
 case round =>
  rintro _ _ _ ⟨v,n,cs,xs,k,_,rfl,hle4,H,hinv4,rfl⟩
  have hSs:=hSs.up hle4
  have hbs:=hbs.up hle4
  have hids:=hids.up hle4
  obtain⟨hchk4_0,_,hinv4⟩:=hinv4
  obtain⟨_,_,rfl⟩:=H.accShape (k:=0) rfl
  obtain⟨_,hxs,_⟩:=hinv4
  refine q2 (pe 1 Z (q3 (W_seq ?_)))
  refine W_cond Z ?_ ?_
  ·intro hc5
   try simp only[nrm]at hc5
   refine W_skip (N_K (W_seq (W_block (q2 (iP k hids Z3 Z ?_)))));intro _ _ z6 _ hz6 hE6 hrow6
   obtain⟨rfl,_⟩:=hE6
   refine lP H hrow6 0 Z2 (aG Z (q3 (W_region (pe 3 Z (o_lookS (hbs.at H.sub) hms hSs underlying96 underlying3 zeroValue134 Z Z Z ?_)))));intro _ hE7
   obtain⟨_,_,_,rfl,_,hr7,_,_,_⟩:=ox hE7
   have hgb:=Sp.get_len hVs z6
   refine o_field 1 runUnderlying134 Z Z Z isAgg56 Z Z Z ?_
   refine o_append_P 0 H hr7 (by intro _ cs hz _ hu;obtain⟨rfl,_⟩:=hz;simp at hu;subst hu;rfl) (sz:=1) (bytes:=8) underlying56 typeInfo3 ⟨_,rfl,rfl⟩ rfl rfl rfl rfl rfl rfl rfl oM rfl ?_;intro _ _ css8 hcl8 hcs8 H
   have hchk8:=hchk4_0.app (show Chk _ _ _ _ _ from⟨css8,rfl,hcl8,hcs8⟩)
   obtain⟨_,_,rfl⟩:=H.accShape (k:=0) rfl
   refine aG Z (R_nil (N_B (N_K (W_region (aD Z2 (mV Z (R_nil ?_)))))))
   refine N_lp (hJ:=⟨_,_,_,(xs++(getH Ls z6).bytes),k+1,_,Z,hle4,H,?inv,Z⟩) (hm:=?hm)
   case hm=>omega
   case inv=>exact⟨hchk8,aN,(by exact⟨by omega,by rw[Sp.load_succ hz6,hxs],by have:=Sp.load_len hVs (ids.take (k+1));rw[Sp.load_succ hz6,←hxs]at this;simp at this ⊢;omega⟩)⟩
  intro hc5'
  try simp only[nrm]at hc5'
  refine W_exit (N_K_exit (N_LP_exit (N_B_same (N_K (q2 (pe 3 Z (q3 (W_ret (rt2 results52 Z Z ?_)))))))))
  have H:=H.forget hG (by simp)
  exact⟨_,_,rfl,H,_,_,_,congrArg (fun b=>Value.tuple #[_,Value.bool b]) (show _=Sp.l4Ids Ls ids by rw[hc2']),acc_1 aN,chkI (hchk4_0),by omega,fun _=>by rw[hxs,List.take_of_length_le oM],fun h=>by rw[hc2']at h;cases h⟩
theorem i_freeFile_c (w0:World)(G0:PH)(hG:PSub G0 w0)(mbs:Nat)(ess:Array MapEntry)(cks:Nat)(xss:List (Int×Value))(Ls:List BHeld)(hms:MapIs (Value.int .i64) ess cks xss)(hSs:StR G0 xss Ls)(hVs:Sp.VH Ls)(vids:Value)(ids:List (Int))(hids:RdI G0 vids ids)(hLent:Lent w0 G0 [blk mbs (.map ess cks)]) :
  Calls Tryz.prog 98 #[.map (some mbs),vids] w0 (RetM w0 G0 [mbs] (fun G' v Bs=>∃(es':Array MapEntry) (ck':Nat) (xs':List (Int×Value)) (L':List BHeld),v= .bool (Sp.FileFree Ls ids).isSome∧Bs=[blk mbs (.map es' ck')]∧MapIs (Value.int .i64) es' ck' xs'∧StR G' xs' L'∧Sp.VH L'∧∀l,Sp.FileFree Ls ids=some l→L'=l)):=by
 obtain⟨aids,kids,rfl⟩:=hids.shape
 have hlimids:ids.length≤1099511627776:=hids.lim
 have H:Hp w0 G0 [mbs] w0 G0 [blk mbs (.map ess cks)]:=hLent.hp
 refine calls_of_W (l:=[.map (some mbs),.slice aids ids.length kids]) func98 Z ntmps98 Z (q2 (aG Z (q3 (W_seq (q2 (pe 2 Z (xr H Z2 (i_fileIds_c _ _ (H.lendSubL [0]) _ _ _ _ _ (H.lendPredL (k:=0) (ks:=[0]) Z Z) hms (hSs.up (PPlus.le _ _ _)) hVs _ _ (hids.up (PPlus.le _ _ _))) ?_)))))));intro _ H
 refine pe 1 Z (q3 ?_)
 refine W_cond Z ?_ ?_
 ·intro hc2
  try simp only[nrm]at hc2
  refine q2 (aG Z (q3 (W_ret (N_K_ret (rt1 results98 Z ?_)))))
  have hno:Sp.FileFree Ls ids=none:=by simp[Sp.FileFree,hc2]
  exact H.retM ⟨_,_,_,_,congrArg Value.bool (by rw[hno];rfl),rfl,hms,hSs,hVs,fun l hl=>by rw[hno]at hl;cases hl⟩
 intro hc2'
 try simp only[nrm]at hc2'
 refine W_skip (N_K (W_seq (q2 (mV Z (lN Z (mV Z (q3 (W_block ?_))))))))
 refine W_lp (hf:=(Sub.cons (t:=0) Z (Sub.cons (t:=11) Z (Sub.cons (t:=12) Z Sub.nil)))) (J:=fun M w m=>∃(esm0:Array MapEntry) (ckm0:Nat) (xsm0:List (Int×Value)) (Lm0:List BHeld) (k:Nat) (G:PH),M=[(13,.int .i64 (k:Int))]∧PLe G0 G∧Hp w0 G0 [mbs] w G [blk mbs (.map esm0 ckm0)]∧(MapIs (Value.int .i64) esm0 ckm0 xsm0∧StR G xsm0 Lm0∧Sp.VH Lm0∧k≤ids.length∧Sp.foldB Sp.StoreDrop (ids.take k) (some Ls)=some Lm0)∧m=(ids.length-k)) (h0:=⟨_,_,xss,Ls,0,_,Z,PLe.refl _,H,?inv,Z⟩) (round:=?round)
 case inv=>exact⟨hms,hSs,hVs,(by simp[Sp.foldB])⟩
 case round =>
  rintro _ _ _ ⟨esm0,ckm0,xsm0,Lm0,k,_,rfl,hle3,H,hinv3,rfl⟩
  have hids:=hids.up hle3
  obtain⟨hm3_m0,hS3_m0,hV3_m0,hinv3⟩:=hinv3
  obtain⟨_,hf⟩:=hinv3
  refine q2 (pe 1 Z (q3 (W_seq ?_)))
  refine W_cond Z ?_ ?_
  ·intro hc4
   try simp only[nrm]at hc4
   refine W_skip (N_K (W_seq (W_block (q2 (iP k hids Z3 Z ?_)))));intro _ _ z5 _ hz5 hE5 hrow5
   obtain⟨rfl,_⟩:=hE5
   refine lP H hrow5 0 Z2 (aG Z (q1 (pe 2 Z (xc Z2 (i_drop_c _ _ H.sub _ _ _ _ _ hm3_m0 hS3_m0 hV3_m0 _ H.lent1) ?_))))
   rintro _ _ ⟨_,_,_,rfl,H6',⟨_,_,xs6,L6,rfl,rfl,hm6,hS6,hV6,hL6⟩⟩
   have hle3:=hle3.trans H6'.le
   have H:=H.borrow1 H6'
   refine⟨_,Z,?_⟩
   refine pe 1 Z (q3 ?_)
   refine W_cond Z ?_ ?_
   ·intro hc7
    try simp only[nrm]at hc7
    refine q2 (aG Z (q3 (W_ret (N_B_ret (N_K_ret (N_LP_ret (N_B_ret (N_K_ret (rt1 results98 Z ?_)))))))))
    have hno:Sp.FileFree Ls ids=none:=by (have hno:Sp.StoreDrop Lm0 z5=none:=by simpa using hc7);simp only[Sp.FileFree,Sp.valid_iff.2 hVs,hc2',Bool.and_self,if_true];exact Sp.foldB_stop hf hz5 hno
    exact H.retM ⟨_,_,_,_,congrArg Value.bool (by rw[hno];rfl),rfl,hm6,hS6,hV6,fun l hl=>by rw[hno]at hl;cases hl⟩
   intro hc7'
   try simp only[nrm]at hc7'
   obtain⟨p,hsp⟩:=Option.isSome_iff_exists.1 hc7'
   have hLp:L6=p:=by rw[hL6,hsp];rfl
   subst hLp
   refine W_skip (N_B (N_K (W_region (aD Z2 (mV Z (R_nil ?_))))))
   refine N_lp (hJ:=⟨_,_,xs6,L6,k+1,_,Z,hle3,H,?inv,Z⟩) (hm:=?hm)
   case hm=>omega
   case inv=>exact⟨hm6,hS6,hV6,(by exact⟨by omega,Sp.foldB_succ hf hz5 hsp⟩)⟩
  intro hc4'
  try simp only[nrm]at hc4'
  refine W_exit (N_K_exit (N_LP_exit (N_B_same (N_K (q2 (aG Z (q3 (W_ret (rt1 results98 Z ?_)))))))))
  have hyes:Sp.FileFree Ls ids=some Lm0:=by simp only[Sp.FileFree,Sp.valid_iff.2 hVs,hc2',Bool.and_self,if_true];exact Sp.foldB_all hf oM
  exact H.retM ⟨_,_,_,_,congrArg Value.bool (by rw[hyes];rfl),rfl,hm3_m0,hS3_m0,hV3_m0,fun l hl=>by rw[hyes]at hl;cases hl;rfl⟩
theorem i_keepFile_c (w0:World)(G0:PH)(hG:PSub G0 w0)(mbs:Nat)(ess:Array MapEntry)(cks:Nat)(xss:List (Int×Value))(Ls:List BHeld)(hms:MapIs (Value.int .i64) ess cks xss)(hSs:StR G0 xss Ls)(hVs:Sp.VH Ls)(vids:Value)(ids:List (Int))(hids:RdI G0 vids ids)(hLent:Lent w0 G0 [blk mbs (.map ess cks)]) :
  Calls Tryz.prog 97 #[.map (some mbs),vids] w0 (RetM w0 G0 [mbs] (fun G' v Bs=>∃(es':Array MapEntry) (ck':Nat) (xs':List (Int×Value)) (L':List BHeld),v= .bool (Sp.foldB Sp.StoreKeep ids (some Ls)).isSome∧Bs=[blk mbs (.map es' ck')]∧MapIs (Value.int .i64) es' ck' xs'∧StR G' xs' L'∧Sp.VH L'∧∀l,Sp.foldB Sp.StoreKeep ids (some Ls)=some l→L'=l)):=by
 obtain⟨aids,kids,rfl⟩:=hids.shape
 have hlimids:ids.length≤1099511627776:=hids.lim
 have H:Hp w0 G0 [mbs] w0 G0 [blk mbs (.map ess cks)]:=hLent.hp
 refine calls_of_W (l:=[.map (some mbs),.slice aids ids.length kids]) func97 Z ntmps97 Z (q2 (aG Z (q3 (W_seq (q2 (mV Z (lN Z (mV Z (q3 (W_block ?_))))))))))
 refine W_lp (hf:=(Sub.cons (t:=0) Z (Sub.cons (t:=7) Z (Sub.cons (t:=8) Z Sub.nil)))) (J:=fun M w m=>∃(esm0:Array MapEntry) (ckm0:Nat) (xsm0:List (Int×Value)) (Lm0:List BHeld) (k:Nat) (G:PH),M=[(9,.int .i64 (k:Int))]∧PLe G0 G∧Hp w0 G0 [mbs] w G [blk mbs (.map esm0 ckm0)]∧(MapIs (Value.int .i64) esm0 ckm0 xsm0∧StR G xsm0 Lm0∧Sp.VH Lm0∧k≤ids.length∧Sp.foldB Sp.StoreKeep (ids.take k) (some Ls)=some Lm0)∧m=(ids.length-k)) (h0:=⟨_,_,xss,Ls,0,_,Z,PLe.refl _,H,?inv,Z⟩) (round:=?round)
 case inv=>exact⟨hms,hSs,hVs,(by simp[Sp.foldB])⟩
 case round =>
  rintro _ _ _ ⟨esm0,ckm0,xsm0,Lm0,k,_,rfl,hle1,H,hinv1,rfl⟩
  have hids:=hids.up hle1
  obtain⟨hm1_m0,hS1_m0,hV1_m0,hinv1⟩:=hinv1
  obtain⟨_,hf⟩:=hinv1
  refine q2 (pe 1 Z (q3 (W_seq ?_)))
  refine W_cond Z ?_ ?_
  ·intro hc2
   try simp only[nrm]at hc2
   refine W_skip (N_K (W_seq (W_block (q2 (iP k hids Z3 Z ?_)))));intro _ _ z3 _ hz3 hE3 hrow3
   obtain⟨rfl,_⟩:=hE3
   refine lP H hrow3 0 Z2 (aG Z (q1 (pe 2 Z (xc Z2 (i_keep_c _ _ H.sub _ _ _ _ _ hm1_m0 hS1_m0 hV1_m0 _ H.lent1) ?_))))
   rintro _ _ ⟨_,_,_,rfl,H4',⟨_,_,xs4,L4,rfl,rfl,hm4,hS4,hV4,hL4⟩⟩
   have hle1:=hle1.trans H4'.le
   have H:=H.borrow1 H4'
   refine⟨_,Z,?_⟩
   refine pe 1 Z (q3 ?_)
   refine W_cond Z ?_ ?_
   ·intro hc5
    try simp only[nrm]at hc5
    refine q2 (aG Z (q3 (W_ret (N_B_ret (N_K_ret (N_LP_ret (N_B_ret (N_K_ret (rt1 results97 Z ?_)))))))))
    have hno:Sp.foldB Sp.StoreKeep ids (some Ls)=none:=by (have hno:Sp.StoreKeep Lm0 z3=none:=by simpa using hc5);exact Sp.foldB_stop hf hz3 hno
    exact H.retM ⟨_,_,_,_,congrArg Value.bool (by rw[hno];rfl),rfl,hm4,hS4,hV4,fun l hl=>by rw[hno]at hl;cases hl⟩
   intro hc5'
   try simp only[nrm]at hc5'
   obtain⟨p,hsp⟩:=Option.isSome_iff_exists.1 hc5'
   have hLp:L4=p:=by rw[hL4,hsp];rfl
   subst hLp
   refine W_skip (N_B (N_K (W_region (aD Z2 (mV Z (R_nil ?_))))))
   refine N_lp (hJ:=⟨_,_,xs4,L4,k+1,_,Z,hle1,H,?inv,Z⟩) (hm:=?hm)
   case hm=>omega
   case inv=>exact⟨hm4,hS4,hV4,(by exact⟨by omega,Sp.foldB_succ hf hz3 hsp⟩)⟩
  intro hc2'
  try simp only[nrm]at hc2'
  refine W_exit (N_K_exit (N_LP_exit (N_B_same (N_K (q2 (aG Z (q3 (W_ret (rt1 results97 Z ?_)))))))))
  have hyes:Sp.foldB Sp.StoreKeep ids (some Ls)=some Lm0:=Sp.foldB_all hf oM
  exact H.retM ⟨_,_,_,_,congrArg Value.bool (by rw[hyes];rfl),rfl,hm1_m0,hS1_m0,hV1_m0,fun l hl=>by rw[hyes]at hl;cases hl;rfl⟩
theorem i_listIn_r:∀(N:Nat) (w0:World) (G0:PH) (hG:PSub G0 w0) (t:Nd) (hndt:RdN G0 t) (s:Bs) (hs:s.length≤16777216) (hwt:t.wf) (hsl:s.length+6*t.cnt≤100000) (hsz:t.size≤N),
  Calls Tryz.prog 85 #[.pointer (some ⟨t.b,0,none⟩),str s] w0 (RetN w0 G0 (fun v Bs=>∃(F:Fr),Bs=[frag F]∧OIs F v (t.flat s))):=by
 intro N
 induction N with
 | zero=>intro w0 G0 hG t hndt s hs hwt hsl hsz;exact absurd (Nd.size_pos t) oM
 | succ N ih =>
 intro w0 G0 hG t hndt s hs hwt hsl hsz
 obtain⟨_,_,_,_,_,_,_,hprt,hrit,hrkt⟩:=hndt.open
 have hn_hrit:=hrit.len;have hx_hrit:_≤1099511627776:=hrit.lim
 have hn_hrkt:=hrkt.len;have hx_hrkt:_≤1099511627776:=hrkt.lim
 have H:=Hp.init hG
 refine calls_of_W (l:=[.pointer (some ⟨t.b,0,none⟩),str s]) func85 Z ntmps85 Z (q2 (aG Z (q1 (aG Z (q3 (W_seq (q2 (pe 2 Z (fA 3 Z (lP H hprt 3 Z2 (lN Z (mV Z (q3 (W_block ?_))))))))))))))
 have H:=H.addNil 66 3
 have H:=H.addF
 refine W_lp (hf:=(Sub.cons (t:=1) Z (Sub.cons (t:=4) Z (Sub.cons (t:=12) Z (Sub.cons (t:=13) Z Sub.nil))))) (J:=fun M w m=>∃(v:Value) (n:Nat) (cs:List Value) (xs:List (BItem)) (F:Fr) (k:Nat) (G:PH),M=[(14,.int .i64 (k:Int)),(5,v)]∧PLe G0 G∧Hp w0 G0 [] w G [frag F,acc 66 3 v n cs]∧(ChkF itemO 3 cs xs F∧n=xs.length∧k≤t.kids.length∧xs=Nd.flats s (t.kids.take k))∧m=(t.kids.length-k)) (h0:=⟨_,_,_,[],[],0,_,Z,PLe.refl _,H,?inv,Z⟩) (round:=?round)
 case inv=>exact⟨ChkF.nil,by first|rfl|simp|(simp;omega)|omega,(by simp[Nd.flats])⟩
 case round =>
  rintro _ _ _ ⟨v,n,cs,xs,F,k,G2,rfl,hle2,H,hinv2,rfl⟩
  have hrkt:=hrkt.up hle2
  obtain⟨hchk2_0,_,hinv2⟩:=hinv2
  obtain⟨_,_,rfl⟩:=H.accShape (k:=1) rfl
  obtain⟨_,hxs⟩:=hinv2;have hxl:xs.length≤100000:=by (have:=Nd.flats_len s (t.kids.take k);have:=Nd.cnts_take t.kids k;have:=Nd.cnt_eq t;rw[hxs];omega)
  refine q2 (pe 1 Z (q3 (W_seq ?_)))
  refine W_cond Z ?_ ?_
  ·intro hc3
   try simp only[nrm]at hc3
   refine W_skip (N_K (W_seq (W_block (q2 (iP k hrkt Z3 Z ?_)))));intro _ _ z4 q4 hz4 hE4 hrow4
   obtain⟨rfl,hnd4⟩:=hE4;obtain⟨_,_,_,_,_,_,_,hpr4,hri4,hrk4⟩:=hnd4.open;have hn_hri4:=hri4.len;have hx_hri4:_≤1099511627776:=hri4.lim;have hn_hrk4:=hrk4.len;have hx_hrk4:_≤1099511627776:=hrk4.lim
   have hzm:=List.mem_of_getElem? hz4;have hzc:=Nd.kid_cnt hzm;have hzs:=Nd.size_kid hzm;have hzw:=((Nd.wf_iff _).1 hwt).2 _ hzm;have hzn:=Nd.word_le hzw.1;have hzf:=Nd.flat_len (s++z4.name++[47]) z4
   refine lP H hrow4 0 Z2 (aG Z (q1 (pe 3 Z (fA 0 Z (lP H hpr4 0 Z2 ?_)))))
   refine o_sadd Z Z Z (by simp only[LIM,List.length_append,List.length_cons,List.length_nil]at *; omega) ?_
   refine aG Z (q3 (W_seq (W_drawK [] 15 H kR Z ?_)));intro _ H;have hd5:=PLe.refl G2
   refine dE 0 Z2 (dE 1 Z2 (dE 2 Z2 (dE 3 Z2 (dF 4 1 Z2 (dP 5 hpr4 1 Z3 (dE 6 Z2 (dE 7 Z2 (dF 8 2 Z2 (dP 9 hpr4 2 Z3 (r1 10 Z (xc Z2 (l_Clone_c _ _ H.sub _ _ hri4) ?_)))))))))))
   rintro _ _ ⟨_,_,_,g6,rfl,⟨_,rfl,hchk6⟩,hp6,hq6,hs6⟩
   have H:=H.growO g6 hp6 hq6 hs6;obtain⟨_,_,rfl⟩:=H.accShape (k:=0) rfl
   have hnd4:=hnd4.up g6.le
   have hle2:=hle2.trans g6.le
   have hd5:=hd5.trans g6.le
   refine⟨_,Z,?_⟩
   refine q4 H hd5 (RD_t 11 Z kR Z (fun _ hK=>v_build bf66 Z Z) (r1 12 Z (xbs H Z7 ?_)));intro _ _ _ H
   refine q4 H hd5 (r1 13 Z (o_append1 2 H (sz:=3) (bytes:=48) underlying24 typeInfo66 ⟨_,Z,Z⟩ Z Z Z Z Z Z Z Z Z Z oM Z ?_));intro _ _ H
   obtain⟨Fi2,H,hOI2⟩:=H.ownI (k:=0) rfl hchk6 aN aN
   have hchk8:=hchk2_0.snoc (show itemO Fi2 ⟨s++z4.name,z4.dir,z4.ids⟩ _ from⟨_,_,_,rfl,(by (first|assumption|(refine Sp.l5Parent_lim ?_;assumption)|(simp;done)|(simp;omega)|omega)),hOI2⟩) rfl
   have H:=H.tF 1
   have H:=H.mergeF
   obtain⟨_,_,rfl⟩:=H.accShape (k:=1) rfl
   refine q4 H hd5 (dE 14 Z2 (rz (N_K (W_region (pe 3 Z ?_)))))
   refine o_sadd Z Z Z (by simp only[LIM,List.length_append,List.length_cons,List.length_nil]at *; omega) ?_
   refine xc Z2 (ih _ _ H.sub _ hnd4 _ (by (first|assumption|(refine Sp.l5Parent_lim ?_;assumption)|(simp;done)|(simp;omega)|omega)) hzw.2 (by simp;omega) oM) ?_
   rintro _ _ ⟨_,_,rfl,H9',⟨_,rfl,hO9⟩⟩
   have H:=H.readers (fp:=[]) (by simp) (PLe.refl _) H9'
   obtain⟨_,hP9⟩:=hO9
   obtain⟨_,_,rfl⟩:=OwnS.shape hP9
   have hO9:=OIs.mk hP9
   refine⟨_,Z,?_⟩
   refine o_append_F 1 H hP9 (by intro F _ cs hx _ hu;obtain⟨_,_,_,rfl,_⟩:=hx;simp at hu;rcases hu with rfl|rfl|rfl<;>rfl) (sz:=3) (bytes:=48) underlying24 typeInfo66 ⟨_,rfl,rfl⟩ rfl rfl rfl rfl rfl rfl rfl oM rfl ?_;intro _ _ _ F10_ H hck10 _
   have hchk10:=hchk8.app hck10
   have H:=H.tF 1
   have H:=H.mergeF
   obtain⟨_,_,rfl⟩:=H.accShape (k:=1) rfl
   refine aG Z (R_nil (N_B (N_K (W_region (aD Z2 (mV Z (R_nil ?_)))))))
   refine N_lp (hJ:=⟨_,_,_,((xs++[⟨s++z4.name,z4.dir,z4.ids⟩])++(z4.flat (s++z4.name++[47]))),((F++Fi2)++F10_),k+1,_,Z,hle2,H,?inv,Z⟩) (hm:=?hm)
   case hm=>omega
   case inv=>exact⟨hchk10,aN,(by exact⟨by omega,by (rw[Nd.flats_succ hz4,hxs];simp)⟩)⟩
  intro hc3'
  try simp only[nrm]at hc3'
  refine W_exit (N_K_exit (N_LP_exit (N_B_same (N_K (q2 (pe 2 Z (q3 (W_ret (rt1 results85 Z ?_)))))))))
  have H:=H.tF 1
  obtain⟨_,H,hOw3⟩:=H.ownF hchk2_0 aN aN
  have hX:xs=t.flat s:=by rw[hxs,List.take_of_length_le oM,Nd.flat_eq]
  have H:=H.forget hG (by simp)
  exact⟨_,_,Z,H,_,Z,hX▸⟨_,hOw3⟩⟩
theorem i_listIn_c (w0:World)(G0:PH)(hG:PSub G0 w0)(t:Nd)(hndt:RdN G0 t)(s:Bs)(hs:s.length≤16777216)(hwt:t.wf)(hsl:s.length+6*t.cnt≤100000) :
  Calls Tryz.prog 85 #[.pointer (some ⟨t.b,0,none⟩),str s] w0 (RetN w0 G0 (fun v Bs=>∃(F:Fr),Bs=[frag F]∧OIs F v (t.flat s))):=i_listIn_r _ w0 G0 hG t hndt s hs hwt hsl (Nat.le_refl _)
theorem i_tlist_c (w0:World)(G0:PH)(hG:PSub G0 w0)(t:Nd)(hndt:RdN G0 t)(hwt:t.wf)(hct:t.cnt≤1000) :
  Calls Tryz.prog 49 #[.pointer (some ⟨t.b,0,none⟩)] w0 (RetN w0 G0 (fun v Bs=>∃(F:Fr),Bs=[frag F]∧OIs F v (t.flat []))):=by
 obtain⟨_,_,_,_,_,_,_,_,hrit,hrkt⟩:=hndt.open
 have hn_hrit:=hrit.len;have hx_hrit:_≤1099511627776:=hrit.lim
 have hn_hrkt:=hrkt.len;have hx_hrkt:_≤1099511627776:=hrkt.lim
 have H:=Hp.init hG
 refine calls_of_W (l:=[.pointer (some ⟨t.b,0,none⟩)]) func49 Z ntmps49 Z (q2 (aG Z (q1 (mV Z ?_))))
 refine xc Z2 (i_listIn_c _ _ H.sub _ hndt _ (by (first|assumption|(refine Sp.l5Parent_lim ?_;assumption)|(simp;done)|(simp;omega)|omega)) hwt (by simp;omega)) ?_
 rintro _ _ ⟨_,_,rfl,H1',⟨_,rfl,hO1⟩⟩
 have H:=H.readers (fp:=[]) (by simp) (PLe.refl _) H1'
 obtain⟨_,hP1⟩:=hO1
 obtain⟨_,_,rfl⟩:=OwnS.shape hP1
 have hO1:=OIs.mk hP1
 refine⟨_,Z,?_⟩
 refine aG Z (q3 (W_ret (rt1 results49 Z ?_)))
 have H:=H.forget hG (by simp)
 exact⟨_,_,Z,H,_,Z,hO1⟩
theorem i_usedBy_c (w0:World)(G0:PH)(hG:PSub G0 w0)(mbs:Nat)(ess:Array MapEntry)(cks:Nat)(xss:List (Int×Value))(Ls:List BHeld)(hbs:MapAt G0 mbs ess cks)(hms:MapIs (Value.int .i64) ess cks xss)(hSs:StR G0 xss Ls)(hVs:Sp.VH Ls)(vtrees:Value)(trees:List (Nd))(htrees:RdNd G0 vtrees trees)(htl:trees.length≤7)(htw:∀t,t ∈ trees→t.wf∧t.cnt≤12) :
  Calls Tryz.prog 48 #[.map (some mbs),vtrees] w0 (Rets w0 (.bool (trees.all (fun t=>(t.flat []).all (fun x=>Sp.l4Ids Ls x.ids))&&Ls.all (fun h=>decide ((Sp.cntT trees h.id:Int)=h.uses))))):=by
 obtain⟨atrees,ktrees,rfl⟩:=htrees.shape
 have hlimtrees:trees.length≤1099511627776:=htrees.lim
 have H:=Hp.init hG
 refine calls_of_W (l:=[.map (some mbs),.slice atrees trees.length ktrees]) func48 Z ntmps48 Z (q2 (aG Z (q1 (o_makeMap H Z ?_))));intro b1 _ _ H
 have hm1:=MapIs.empty (key:=Value.int .i64) 0
 have hS1:=UsR.nil
 refine aG Z (q3 (W_seq (q2 (mV Z (lN Z (mV Z (q3 (W_block ?_))))))))
 refine W_lp (hf:=(Sub.cons (t:=0) Z (Sub.cons (t:=5) Z (Sub.cons (t:=15) Z (Sub.cons (t:=16) Z Sub.nil))))) (J:=fun M w m=>∃(esm0:Array MapEntry) (ckm0:Nat) (xsm0:List (Int×Value)) (fm0:Int→Nat) (i:Nat) (G:PH),M=[(17,.int .i64 (i:Int))]∧PLe G0 G∧Hp w0 G0 [] w G [blk b1 (.map esm0 ckm0)]∧(MapIs (Value.int .i64) esm0 ckm0 xsm0∧UsR xsm0 fm0∧i≤trees.length∧(∀a,fm0 a=Sp.cntT (trees.take i) a∧fm0 a≤48*i)∧(trees.take i).all (fun t=>(t.flat []).all (fun x=>Sp.l4Ids Ls x.ids))=true)∧m=(trees.length-i)) (h0:=⟨_,_,[],(fun _=>0),0,_,Z,PLe.refl _,H,?inv,Z⟩) (round:=?round)
 case inv=>exact⟨hm1,hS1,(by simp[Sp.cntT])⟩
 case round =>
  rintro _ _ _ ⟨esm0,ckm0,xsm0,fm0,i,G2,rfl,hle2,H,hinv2,rfl⟩
  have hSs:=hSs.up hle2
  have hbs:=hbs.up hle2
  have htrees:=htrees.up hle2
  obtain⟨hm2_m0,hS2_m0,hinv2⟩:=hinv2
  obtain⟨_,hf,hok⟩:=hinv2
  refine q2 (pe 1 Z (q3 (W_seq ?_)))
  refine W_cond Z ?_ ?_
  ·intro hc3
   try simp only[nrm]at hc3
   refine W_skip (N_K (W_seq (W_block (q2 (iP i htrees Z3 Z ?_)))));intro _ _ z4 _ hz4 hE4 hrow4
   obtain⟨rfl,hnd4⟩:=hE4;obtain⟨_,_,_,_,_,_,_,hpr4,hri4,hrk4⟩:=hnd4.open;have hn_hri4:=hri4.len;have hx_hri4:_≤1099511627776:=hri4.lim;have hn_hrk4:=hrk4.len;have hx_hrk4:_≤1099511627776:=hrk4.lim
   try (have hzw:=htw z4 (List.mem_of_getElem? hz4);have hzf:=Nd.flat_len [] z4)
   refine lP H hrow4 0 Z2 (aG Z (q1 (mV Z (xc Z2 (i_tlist_c _ _ H.sub _ hnd4 hzw.1 oM) ?_))))
   rintro _ _ ⟨_,_,rfl,H5',⟨_,rfl,hO5⟩⟩
   have H:=H.readers (fp:=[]) (by simp) (PLe.refl _) H5'
   obtain⟨e25,hP5⟩:=hO5
   obtain⟨_,_,rfl⟩:=OwnS.shape hP5
   have hO5:=OIs.mk hP5
   refine⟨_,Z,?_⟩
   have hdm1:=dm_nodup H (k:=0) rfl;obtain⟨Gk1,H,hkl1,hks1⟩:=H.keepF (k:=0) rfl (fun b _ hb=>by simp at hb)
   have hrk1:=hO5.rd hks1 hdm1
   have hSs:=hSs.up hkl1
   have hbs:=hbs.up hkl1
   have hle2:=hle2.trans hkl1
   have hn_hrk1:=hrk1.len
   refine lN Z (mV Z (q3 (W_block ?_)))
   refine W_lp (hf:=(Sub.cons (t:=0) Z (Sub.cons (t:=5) Z (Sub.cons (t:=15) Z (Sub.cons (t:=16) Z (Sub.cons (t:=17) Z (Sub.cons (t:=22) Z (Sub.cons (t:=23) Z Sub.nil)))))))) (J:=fun M w m=>∃(esm0:Array MapEntry) (ckm0:Nat) (xsm0:List (Int×Value)) (fm0:Int→Nat) (jj:Nat) (G:PH),M=[(24,.int .i64 (jj:Int))]∧PLe Gk1 G∧Hp w0 G0 [] w G [blk b1 (.map esm0 ckm0)]∧(MapIs (Value.int .i64) esm0 ckm0 xsm0∧UsR xsm0 fm0∧jj≤(z4.flat []).length∧(∀a,fm0 a=Sp.cntT (trees.take i) a+Sp.cntU (z4.flat []) a jj∧fm0 a≤48*i+4*jj)∧((z4.flat []).take jj).all (fun x=>Sp.l4Ids Ls x.ids)=true)∧m=((z4.flat []).length-jj)) (h0:=⟨_,_,xsm0,fm0,0,_,Z,PLe.refl _,H,?inv,Z⟩) (round:=?round)
   case inv=>exact⟨hm2_m0,hS2_m0,(by exact⟨by omega,fun a=>(by have:=hf a;simp[Sp.cntU];omega),by simp⟩)⟩
   case round =>
    rintro _ _ _ ⟨esm0,ckm0,xsm0,fm0,jj,G6,rfl,hle6,H,hinv6,rfl⟩
    have hSs:=hSs.up hle6
    have hbs:=hbs.up hle6
    have hrk1:=hrk1.up hle6
    have hle2:=hle2.trans hle6
    obtain⟨hm6_m0,hS6_m0,hinv6⟩:=hinv6
    obtain⟨_,hf2,hok2⟩:=hinv6
    refine q2 (pe 1 Z (q3 (W_seq ?_)))
    refine W_cond Z ?_ ?_
    ·intro hc7
     try simp only[nrm]at hc7
     refine W_skip (N_K (W_seq (W_block (q2 (iP jj hrk1 Z3 Z ?_)))));intro _ _ z8 _ hz8 hE8 hrow8
     obtain⟨_,_,_,rfl,_,hr8,_,_⟩:=ox hE8
     try (have hzw:=htw z8 (List.mem_of_getElem? hz8);have hzf:=Nd.flat_len [] z8)
     refine o_loadagg_P H isAgg66 sizeOf66 Z Z hrow8 Z (xal H Z ?_);intro b9 _ _ H
     refine xst 0 H Z8 ?_;intro _ H
     refine q3 (W_seq (q2 (mV Z (fA 2 Z (lB 0 H Z3 (xr H Z2 (i_fileIds_c _ _ H.sub _ _ _ _ _ hbs hms hSs hVs _ _ hr8) ?_))))));intro _ H
     refine pe 1 Z (q3 ?_)
     refine W_cond Z ?_ ?_
     ·intro hc12
      try simp only[nrm]at hc12
      refine q2 (aG Z (q3 (W_ret (N_K_ret (N_B_ret (N_K_ret (N_LP_ret (N_B_ret (N_B_ret (N_K_ret (N_LP_ret (N_B_ret (N_K_ret (rt1 results48 Z ?_))))))))))))))
      exact H.rets (congrArg Value.bool (by rw[Sp.all_false hz4 (Sp.all_false hz8 (by simpa using hc12)),Bool.false_and]))
     intro hc12'
     try simp only[nrm]at hc12'
     have hio:Sp.l4Ids Ls z8.ids=true:=by simpa using hc12'
     have hil:=Sp.ids_le hio
     refine W_skip (N_K (q2 (fA 2 Z (lB 0 H Z3 (lN Z (mV Z (q3 (W_block ?_))))))))
     obtain⟨ln13,hln13,H⟩:=H.name (k:=0) rfl
     refine W_lp (hf:=(Sub.cons (t:=0) Z (Sub.cons (t:=5) Z (Sub.cons (t:=15) Z (Sub.cons (t:=16) Z (Sub.cons (t:=17) Z (Sub.cons (t:=22) Z (Sub.cons (t:=23) Z (Sub.cons (t:=24) Z (Sub.cons (t:=34) Z (Sub.cons (t:=35) Z Sub.nil))))))))))) (J:=fun M w m=>∃(esm0:Array MapEntry) (ckm0:Nat) (xsm0:List (Int×Value)) (fm0:Int→Nat) (kk:Nat) (G:PH),M=[(36,.int .i64 (kk:Int))]∧PLe G6 G∧Hp w0 G0 [] w G [blk b9 (cl ln13 66),blk b1 (.map esm0 ckm0)]∧(MapIs (Value.int .i64) esm0 ckm0 xsm0∧UsR xsm0 fm0∧kk≤z8.ids.length∧(∀a,fm0 a=Sp.cntT (trees.take i) a+Sp.cntU (z4.flat []) a jj+Sp.cnt1 a (z8.ids.take kk)∧fm0 a≤48*i+4*jj+kk))∧m=(z8.ids.length-kk)) (h0:=⟨_,_,xsm0,fm0,0,_,Z,PLe.refl _,H,?inv,Z⟩) (round:=?round)
     case inv=>exact⟨hm6_m0,hS6_m0,(by exact⟨by omega,fun a=>(by have:=hf2 a;simp[Sp.cnt1];omega)⟩)⟩
     case round =>
      rintro _ _ _ ⟨esm0,ckm0,xsm0,fm0,kk,_,rfl,hle14,H,hinv14,rfl⟩
      subst hln13
      have hr8:=hr8.up hle14
      have hle6:=hle6.trans hle14
      obtain⟨hm14_m0,hS14_m0,hinv14⟩:=hinv14
      obtain⟨_,hf3⟩:=hinv14;have hb3:=fun a=>(hf3 a).2
      refine q2 (pe 1 Z (q3 (W_seq ?_)))
      refine W_cond Z ?_ ?_
      ·intro hc15
       try simp only[nrm]at hc15
       refine W_skip (N_K (W_seq (W_block (q2 (iP kk hr8 Z3 Z ?_)))));intro _ _ z16 _ hz16 hE16 hrow16
       obtain⟨rfl,_⟩:=hE16
       refine lP H hrow16 0 Z2 (aG Z (q3 (W_region (pe 2 Z (o_lookU (H.at (k:=1) Z) hm14_m0 hS14_m0 underlying156 underlying3 zeroValue3 Z Z Z ?_)))))
       try (have h7:=hb3 z16)
       refine aD Z2 (o_updU 1 H (fm0 z16+1) Z hm14_m0 hS14_m0 underlying156 underlying3 Z Z Z oM ?_);intro _ _ xs19 _ H hm19 hS19
       refine R_nil (N_B (N_K (W_region (aD Z2 (mV Z (R_nil ?_))))))
       refine N_lp (hJ:=⟨_,_,xs19,(fun a=>if a=z16 then(fm0 z16+1) else fm0 a),kk+1,_,Z,hle14,H,?inv,Z⟩) (hm:=?hm)
       case hm=>omega
       case inv=>exact⟨hm19,hS19,(by exact⟨by omega,fun a=>(by have h9:=hf3 a;have h7:=hf3 z16;(rw[Sp.cnt1_succ hz16]);by_cases e:a=z16;(· subst e;simp;omega);(· have e2:¬z16=a:=fun h=>e h.symm;simp only[e,e2,if_false];omega))⟩)⟩
      intro hc15'
      try simp only[nrm]at hc15'
      refine W_exit (N_K_exit (N_LP_exit (N_B_same (N_B (N_K (W_region (aD Z2 (mV Z (R_nil ?_)))))))))
      have H:=H.dl 0
      refine N_lp (hJ:=⟨_,_,xsm0,fm0,jj+1,_,Z,hle6,H,?inv,Z⟩) (hm:=?hm)
      case hm=>omega
      case inv=>exact⟨hm14_m0,hS14_m0,(by exact⟨by omega,fun a=>(by have h9:=hf3 a;(rw[Sp.cntU_succ hz8]);(rw[List.take_of_length_le (l:=z8.ids) oM]at h9);omega),Sp.all_take hok2 hz8 hio⟩)⟩
    intro hc7'
    try simp only[nrm]at hc7'
    refine W_exit (N_K_exit (N_LP_exit (N_B_same (N_B (N_K (W_region (aD Z2 (mV Z (R_nil ?_)))))))))
    refine N_lp (hJ:=⟨_,_,xsm0,fm0,i+1,_,Z,hle2,H,?inv,Z⟩) (hm:=?hm)
    case hm=>omega
    case inv=>exact⟨hm6_m0,hS6_m0,(by exact⟨by omega,fun a=>(by have h9:=hf2 a;have h10:=Sp.cntT_succ (id:=a) hz4;have h8:(z4.flat []).length=jj:=oM;(rw[h8]at h10);omega),Sp.all_take hok hz4 (by (rw[List.take_of_length_le (l:=z4.flat []) oM]at hok2);exact hok2)⟩)⟩
  intro hc3'
  try simp only[nrm]at hc3'
  refine W_exit (N_K_exit (N_LP_exit (N_B_same (N_K (W_seq (q2 (mV Z ?_)))))))
  have hmb23:=(hbs.at H.sub);refine o_range H hmb23 underlying96 rfl rfl ?_;intro r23 _ _ H _;have hne23:r23≠mbs:=fun e=>by have:=(Array.getElem?_eq_some_iff.1 hmb23).1;omega
  refine q3 (W_block ?_)
  refine W_lp (hf:=(Sub.cons (t:=5) Z (Sub.cons (t:=48) Z Sub.nil))) (J:=fun M w m=>∃(sn:Array Nat) (G:PH),M=[]∧PLe G2 G∧Hp w0 G0 [] w G [blk r23 (.mapIter (some mbs) cks sn cks),blk b1 (.map esm0 ckm0)]∧(∀y,y ∈ Ls→seenH ess sn y→(Sp.cntT trees y.id:Int)=y.uses)∧m=((leftOf ess sn).size)) (h0:=⟨#[],_,Z,PLe.refl _,H,?inv,Z⟩) (round:=?round)
  case inv=>rintro y hy ⟨e,_,_,he⟩;simp at he
  case round =>
   rintro _ _ _ ⟨sn,_,rfl,hle24,H,hinv24,rfl⟩
   have hSs:=hSs.up hle24
   have hbs:=hbs.up hle24
   have hsn:=hinv24
   refine q2 ?_
   refine o_next 0 H (hbs.at H.sub) hms hSs Z hne23 Z Z ?_ ?_
   ·intro hall25
    refine pe 1 Z (q3 (W_seq (W_false Z (W_exit (N_K_exit (N_LP_exit (N_B_same (N_K (q2 (aG Z (q3 (W_ret (rt1 results48 Z ?_)))))))))))))
    have hot:=hok;rw[List.take_of_length_le oM]at hot
    exact H.rets (congrArg Value.bool (by (rw[hot,Bool.true_and]);symm;(rw[List.all_eq_true]);intro y hy;simp only[decide_eq_true_eq];exact hsn y hy (hall25 y hy)))
   intro e25 _ _ _ he25 hk25 hv25 hy25 hE25 _ hless25 H
   obtain⟨_,_,_,rfl,_,_,_,_,_⟩:=ox hE25
   refine pe 1 Z (q3 (W_seq (W_true Z (W_skip (N_K (W_block (q2 (o_entry 0 H (hbs.at H.sub) hms Z he25 hk25 hv25 Z Z (pe 2 Z (xal H Z ?_))))))))));intro _ _ _ H
   refine aG Z (xst 0 H Z8 ?_);intro _ H
   refine q1 (pe 2 Z (o_lookU (H.at (k:=2) Z) hm2_m0 hS2_m0 underlying156 underlying3 zeroValue3 Z Z Z (fA 2 Z (lB 0 H Z3 (pe 1 Z (q3 ?_))))))
   refine W_cond Z ?_ ?_
   ·intro hc29
    try simp only[nrm]at hc29
    refine q2 (aG Z (q3 (W_ret (N_B_ret (N_LP_ret (N_B_ret (N_K_ret (rt1 results48 Z ?_))))))))
    have hft:∀a,fm0 a=Sp.cntT trees a:=fun a=>(by have h9:=(hf a).1;(rw[List.take_of_length_le oM]at h9);exact h9)
    have hot:=hok;rw[List.take_of_length_le oM]at hot
    exact H.rets (congrArg Value.bool (by (rw[hot,Bool.true_and]);symm;(rw[List.all_eq_false]);exact⟨_,hy25,by simp only[decide_eq_true_eq];(rw[←hft]);first|exact hc29|(simpa using hc29)|omega⟩))
   intro hc29'
   try simp only[nrm]at hc29'
   refine W_skip (N_B ?_)
   have H:=H.dl 0
   refine N_lp (hJ:=⟨_,_,Z,hle24,H,?inv,Z⟩) (hm:=?hm)
   case hm=>exact hless25
   case inv=>intro y hy hs;rcases seenH_push hms (hSs.nd hms) he25 hk25 hy25 hy hs with rfl|h;(· (have h9:=(hf y.id).1;(rw[List.take_of_length_le oM]at h9);(rw[←h9]);first|exact hc29'|(simpa using hc29')|omega));exact hsn y hy h
theorem i_StoreValid_c (w0:World)(G0:PH)(hG:PSub G0 w0)(vlist:Value)(list:List (BHeld))(hlist:RdH G0 vlist list) :
  Calls Tryz.prog 118 #[vlist] w0 (Rets w0 (.bool (Sp.StoreValid list))):=by
 obtain⟨alist,klist,rfl⟩:=hlist.shape
 have hlimlist:list.length≤1099511627776:=hlist.lim
 have H:=Hp.init hG
 refine calls_of_W (l:=[.slice alist list.length klist]) func118 Z ntmps118 Z (q2 (aG Z (q3 (W_seq (q2 (mV Z (lN Z (pe 1 Z (q3 ?_)))))))))
 refine W_cond Z ?_ ?_
 ·intro hc1
  try simp only[nrm]at hc1
  refine q2 (aG Z (q3 (W_ret (N_K_ret (rt1 results118 Z ?_)))))
  exact H.rets (congrArg Value.bool (by rw[Sp.sv_long oM]))
 intro hc1'
 try simp only[nrm]at hc1'
 refine W_skip (N_K (q2 (aG Z (q3 (W_seq (q2 (mV Z (lN Z (mV Z (q3 (W_block ?_)))))))))))
 refine W_lp (hf:=(Sub.cons (t:=0) Z (Sub.cons (t:=11) Z (Sub.cons (t:=12) Z Sub.nil)))) (J:=fun M w m=>∃(k:Nat) (la:Int) (G:PH),M=[(13,.int .i64 (k:Int)),(3,.int .i64 la)]∧PLe G0 G∧Hp w0 G0 [] w G []∧(k≤list.length∧la=Sp.lastId list k∧(∀j,j<k→Sp.okH list j=true)∧inI la)∧m=(list.length-k)) (h0:=⟨0,0,_,Z,PLe.refl _,H,?inv,Z⟩) (round:=?round)
 case inv=>exact⟨by omega,rfl,fun j hj=>by omega,by decide⟩
 case round =>
  rintro _ _ _ ⟨k,la,G2,rfl,hle2,H,hinv2,rfl⟩
  have hlist:=hlist.up hle2
  obtain⟨_,_,hall,_⟩:=hinv2
  refine q2 (pe 1 Z (q3 (W_seq ?_)))
  refine W_cond Z ?_ ?_
  ·intro hc3
   try simp only[nrm]at hc3
   refine W_skip (N_K (W_seq (W_block (q2 (mV Z (iP k hlist Z3 Z ?_))))));intro _ _ z4 _ hz4 hE4 hrow4
   obtain⟨_,_,_,rfl,hi4,hr4,_,_,_⟩:=ox hE4
   refine o_loadagg_P H isAgg134 sizeOf134 Z Z hrow4 Z (xal H Z ?_);intro b5 _ _ H
   refine aG Z (xst 0 H Z8 ?_);intro _ H
   refine q3 (W_seq (q2 (fA 0 Z (lB 0 H Z3 (pe 3 Z ?_)))))
   refine R_case (t:=22) Z ?_ ?_
   ·intro hc7
    try simp only[nrm]at hc7
    refine pe 20 Z (q3 (W_true Z (q2 (aG Z (q3 (W_ret (N_K_ret (N_B_ret (N_K_ret (N_LP_ret (N_B_ret (N_K_ret (rt1 results118 Z ?_)))))))))))))
    exact H.rets (congrArg Value.bool (by rw[Sp.sv_false (k:=k) oM (Sp.okH_last hz4 oM)]))
   intro hc7'
   try simp only[nrm]at hc7'
   refine gR Z (fA 0 Z (gR Z (lB 0 H Z3 (pe 3 Z ?_))))
   refine R_case (t:=27) Z ?_ ?_
   ·intro hc8
    try simp only[nrm]at hc8
    refine pe 15 Z (q3 (W_true Z (q2 (aG Z (q3 (W_ret (N_K_ret (N_B_ret (N_K_ret (N_LP_ret (N_B_ret (N_K_ret (rt1 results118 Z ?_)))))))))))))
    exact H.rets (congrArg Value.bool (by rw[Sp.sv_false (k:=k) oM (Sp.okH_id hz4 oM)]))
   intro hc8'
   try simp only[nrm]at hc8'
   refine gR Z (fA 2 Z (gR Z (lB 0 H Z3 (pe 3 Z ?_))))
   refine R_case (t:=32) Z ?_ ?_
   ·intro hc9
    try simp only[nrm]at hc9
    refine pe 10 Z (q3 (W_true Z (q2 (aG Z (q3 (W_ret (N_K_ret (N_B_ret (N_K_ret (N_LP_ret (N_B_ret (N_K_ret (rt1 results118 Z ?_)))))))))))))
    exact H.rets (congrArg Value.bool (by rw[Sp.sv_false (k:=k) oM (Sp.okH_id hz4 oM)]))
   intro hc9'
   try simp only[nrm]at hc9'
   refine gR Z (fA 2 Z (gR Z (lB 0 H Z3 (pe 3 Z ?_))))
   refine R_case (t:=37) Z ?_ ?_
   ·intro hc10
    try simp only[nrm]at hc10
    refine pe 5 Z (q3 (W_true Z (q2 (aG Z (q3 (W_ret (N_K_ret (N_B_ret (N_K_ret (N_LP_ret (N_B_ret (N_K_ret (rt1 results118 Z ?_)))))))))))))
    exact H.rets (congrArg Value.bool (by rw[Sp.sv_false (k:=k) oM (Sp.okH_id hz4 oM)]))
   intro hc10'
   try simp only[nrm]at hc10'
   refine gR Z (fA 1 Z (gR Z (lB 0 H Z3 (gR Z (xr H Z2 (i_BlockValid_c _ _ H.sub _ _ hr4) ?_)))));intro _ H
   refine pe 2 Z (q3 ?_)
   refine W_cond Z ?_ ?_
   ·intro hc12
    try simp only[nrm]at hc12
    refine q2 (aG Z (q3 (W_ret (N_K_ret (N_B_ret (N_K_ret (N_LP_ret (N_B_ret (N_K_ret (rt1 results118 Z ?_))))))))))
    exact H.rets (congrArg Value.bool (by rw[Sp.sv_false (k:=k) oM (Sp.okH_id hz4 (by exact .inr (.inr (.inr (by simpa using hc12)))))]))
   intro hc12'
   try simp only[nrm]at hc12'
   refine W_skip (N_K (W_seq (q2 (pe 2 Z ?_))))
   have hcap13:=hlist.cap;try simp only[List.length_set,List.length_append,List.length_take,List.length_drop,List.length_replicate]at hcap13
   refine o_slice_to (j:=k) underlying23 sizeOf134 Z Z Z oM oM ?_
   have hsl13:=hlist.take (j:=k) aN
   have hsn1:=hsl13.len
   refine lN Z (mV Z (q3 (W_block ?_)))
   obtain⟨ln14,hln14,H⟩:=H.name (k:=0) rfl
   refine W_lp (hf:=(Sub.cons (t:=0) Z (Sub.cons (t:=3) Z (Sub.cons (t:=5) Z (Sub.cons (t:=11) Z (Sub.cons (t:=12) Z (Sub.cons (t:=13) Z (Sub.cons (t:=45) Z (Sub.cons (t:=46) Z Sub.nil))))))))) (J:=fun M w m=>∃(j:Nat) (G:PH),M=[(47,.int .i64 (j:Int))]∧PLe G2 G∧Hp w0 G0 [] w G [blk b5 (cl ln14 134)]∧(j≤k∧(list.take j).all (fun g=> !Sp.l2Same g.bytes z4.bytes)=true)∧m=(k-j)) (h0:=⟨0,_,Z,PLe.refl _,H,?inv,Z⟩) (round:=?round)
   case inv=>exact⟨by omega,by simp⟩
   case round =>
    rintro _ _ _ ⟨j,_,rfl,hle15,H,hinv15,rfl⟩
    subst hln14
    have hr4:=hr4.up hle15
    have hsl13:=hsl13.up hle15
    have hle2:=hle2.trans hle15
    obtain⟨hj,hall2⟩:=hinv15
    refine q2 (pe 1 Z (q3 (W_seq ?_)))
    refine W_cond Z ?_ ?_
    ·intro hc16
     try simp only[nrm]at hc16
     refine W_skip (N_K (W_seq (W_block (q2 (iP j hsl13 Z3 Z ?_)))));intro _ _ _ _ hz17 hE17 hrow17
     obtain⟨_,_,_,rfl,_,hr17,_,_,_⟩:=ox hE17
     rw[List.getElem?_take,if_pos oM]at hz17
     refine o_loadagg_P H isAgg134 sizeOf134 Z Z hrow17 Z (xal H Z ?_);intro _ _ _ H
     refine xst 0 H Z8 ?_;intro _ H
     refine q1 (fA 1 Z (lB 0 H Z3 (fA 1 Z (lB 1 H Z3 (xr H Z2 (l_Equal_c _ _ H.sub _ _ hr17 _ _ hr4) ?_)))));intro _ H
     refine q3 ?_
     refine W_cond Z ?_ ?_
     ·intro hc21
      try simp only[nrm]at hc21
      refine q2 (aG Z (q3 (W_ret (N_B_ret (N_K_ret (N_LP_ret (N_B_ret (N_K_ret (N_B_ret (N_K_ret (N_LP_ret (N_B_ret (N_K_ret (rt1 results118 Z ?_))))))))))))))
      exact H.rets (congrArg Value.bool (by rw[Sp.sv_false (k:=k) oM (Sp.okH_dup hz4 oM hz17 hc21)]))
     intro hc21'
     try simp only[nrm]at hc21'
     refine W_skip (N_B (N_K (W_region (aD Z2 (mV Z (R_nil ?_))))))
     have H:=H.dl 0
     refine N_lp (hJ:=⟨j+1,_,Z,hle15,H,?inv,Z⟩) (hm:=?hm)
     case hm=>omega
     case inv=>exact⟨by omega,Sp.all_take hall2 hz17 (by simp[hc21'])⟩
    intro hc16'
    try simp only[nrm]at hc16'
    refine W_exit (N_K_exit (N_LP_exit (N_B_same (N_K (W_region (fA 0 Z (lB 0 H Z3 (aG Z (R_nil (N_B (N_K (W_region (aD Z2 (mV Z (R_nil ?_)))))))))))))))
    have H:=H.dl 0
    refine N_lp (hJ:=⟨k+1,z4.id,_,Z,hle2,H,?inv,Z⟩) (hm:=?hm)
    case hm=>omega
    case inv=>(obtain rfl:j=k:=by omega);exact⟨by omega,(Sp.lastId_succ hz4).symm,Sp.upto_succ hall (Sp.okH_mk hz4 hall oM oM (by simpa using hc12') oM hall2),hi4⟩
  intro hc3'
  try simp only[nrm]at hc3'
  refine W_exit (N_K_exit (N_LP_exit (N_B_same (N_K (q2 (aG Z (q3 (W_ret (rt1 results118 Z ?_)))))))))
  exact H.rets (congrArg Value.bool (by rw[Sp.sv_true (fun j hj=>hall j oM) oM]))
theorem i_openStore_c (w0:World)(G0:PH)(hG:PSub G0 w0)(vlist:Value)(list:List (BHeld))(hlist:RdH G0 vlist list)(hLent:Lent w0 G0 []) :
  Calls Tryz.prog 81 #[vlist] w0 (RetM w0 G0 [] (fun G' v Bs=>(Sp.StoreValid list=false∧v= .tuple #[.map none,.bool false]∧Bs=[])∨(Sp.VH list∧∃(mb:Nat) (es':Array MapEntry) (ck':Nat) (xs':List (Int×Value)),v= .tuple #[.map (some mb),.bool true]∧Bs=[blk mb (.map es' ck')]∧MapIs (Value.int .i64) es' ck' xs'∧StR G' xs' list))):=by
 obtain⟨alist,klist,rfl⟩:=hlist.shape
 have hlimlist:list.length≤1099511627776:=hlist.lim
 have H:Hp w0 G0 [] w0 G0 []:=hLent.hp
 refine calls_of_W (l:=[.slice alist list.length klist]) func81 Z ntmps81 Z (q2 (pe 2 Z (q3 (W_seq (q2 (mV Z (xr H Z2 (i_StoreValid_c _ _ H.sub _ _ hlist) ?_)))))));intro _ H
 refine pe 1 Z (q3 ?_)
 refine W_cond Z ?_ ?_
 ·intro hc2
  try simp only[nrm]at hc2
  refine q2 (pe 2 Z (q3 (W_ret (N_K_ret (rt2 results81 Z Z ?_)))))
  exact H.retM (.inl ⟨by simpa using hc2,rfl,rfl⟩)
 intro hc2'
 try simp only[nrm]at hc2'
 have hVl:=Sp.valid_iff.1 (by simpa using hc2':Sp.StoreValid list=true)
 refine W_skip (N_K (q2 (o_makeMap H Z ?_)));intro b3 _ _ H
 have hm3:=MapIs.empty (key:=Value.int .i64) 0
 have hS3:=StR.nil G0
 refine aG Z (q3 (W_seq (q2 (mV Z (lN Z (mV Z (q3 (W_block ?_))))))))
 refine W_lp (hf:=(Sub.cons (t:=2) Z (Sub.cons (t:=3) Z (Sub.cons (t:=4) Z (Sub.cons (t:=11) Z (Sub.cons (t:=12) Z Sub.nil)))))) (J:=fun M w m=>∃(esm0:Array MapEntry) (ckm0:Nat) (xsm0:List (Int×Value)) (Lm0:List BHeld) (k:Nat) (G:PH),M=[(13,.int .i64 (k:Int))]∧PLe G0 G∧Hp w0 G0 [] w G [blk b3 (.map esm0 ckm0)]∧(MapIs (Value.int .i64) esm0 ckm0 xsm0∧StR G xsm0 Lm0∧Sp.VH Lm0∧k≤list.length∧Lm0=list.take k)∧m=(list.length-k)) (h0:=⟨_,_,[],[],0,_,Z,PLe.refl _,H,?inv,Z⟩) (round:=?round)
 case inv=>exact⟨hm3,hS3,Sp.VH_nil,(by simp)⟩
 case round =>
  rintro _ _ _ ⟨esm0,ckm0,xsm0,Lm0,k,G4,rfl,hle4,H,hinv4,rfl⟩
  have hlist:=hlist.up hle4
  obtain⟨hm4_m0,hS4_m0,_,hinv4⟩:=hinv4
  obtain⟨_,rfl⟩:=hinv4
  refine q2 (pe 1 Z (q3 (W_seq ?_)))
  refine W_cond Z ?_ ?_
  ·intro hc5
   try simp only[nrm]at hc5
   refine W_skip (N_K (W_seq (W_block (q2 (iP k hlist Z3 Z ?_)))));intro _ _ z6 _ hz6 hE6 hrow6
   obtain⟨_,_,_,rfl,_,hr6,_,_,_⟩:=ox hE6
   refine o_loadagg_P H isAgg134 sizeOf134 Z Z hrow6 Z (xal H Z ?_);intro _ _ _ H
   refine xst 0 H Z8 ?_;intro _ H
   refine q3 (W_drawK [0] 12 H kR Z ?_);intro _ H;have hd9:=PLe.refl G4
   refine dE 0 Z2 (dF 1 0 Z2 (dB 2 0 Z4 (dF 3 0 Z2 (dB 4 0 Z4 (dF 5 1 Z2 (dB 6 0 Z4 (dF 8 2 Z2 (dB 9 0 Z4 (r1 7 Z (xc Z2 (l_Clone_c _ _ H.sub _ _ hr6) ?_))))))))))
   rintro _ _ ⟨_,_,_,g10,rfl,⟨_,rfl,hchk10⟩,hp10,hq10,hs10⟩
   have H:=H.growO g10 hp10 hq10 hs10;obtain⟨_,_,rfl⟩:=H.accShape (k:=0) rfl
   have hS4_m0:=hS4_m0.up g10.le
   have hle4:=hle4.trans g10.le
   have hd9:=hd9.trans g10.le
   refine⟨_,Z,?_⟩
   refine q4 H hd9 (RD_t 10 Z kR Z (fun _ hK=>v_build bf134 Z Z) (r1 11 Z ?_))
   obtain⟨G12,H,hsg12,hsr12⟩:=H.shutL (k:=0) rfl (H.apart (k:=0) (ks:=[]) rfl rfl (by intro _ hb;simpa [fpsAt,nth,blk] using hb)) hchk10 aN aN
   have hS4_m0:=hS4_m0.up hsg12
   have hle4:=hle4.trans hsg12
   refine o_updS 1 H z6 Z hm4_m0 hS4_m0 underlying96 underlying3 Z Z Z (show heldE G12 z6 _ from⟨_,_,_,Z,⟨by first|omega|(dsimp only;omega),by first|omega|(dsimp only;omega)⟩,hsr12,⟨by first|omega|(dsimp only;omega),by first|omega|(dsimp only;omega)⟩⟩) rfl ?_;intro _ _ xs11 _ H hm11 hS11
   refine R_nil (N_DKlast kR kR (N_B (N_K (W_region ?_))))
   rw[Sp.upd_take hVl hz6]at hS11
   refine aD Z2 (mV Z (R_nil ?_))
   have H:=H.dl 0
   refine N_lp (hJ:=⟨_,_,xs11,(list.take (k+1)),k+1,_,Z,hle4,H,?inv,Z⟩) (hm:=?hm)
   case hm=>omega
   case inv=>exact⟨hm11,hS11,(hVl.take (k+1)),(by exact⟨by omega,rfl⟩)⟩
  intro hc5'
  try simp only[nrm]at hc5'
  refine W_exit (N_K_exit (N_LP_exit (N_B_same (N_K (q2 (pe 3 Z (q3 (W_ret (rt2 results81 Z Z ?_)))))))))
  rw[List.take_of_length_le oM]at hS4_m0
  exact H.retM (.inr ⟨hVl,_,_,_,_,Z,Z,hm4_m0,hS4_m0⟩)
theorem i_slist_c (w0:World)(G0:PH)(hG:PSub G0 w0)(mbs:Nat)(ess:Array MapEntry)(cks:Nat)(xss:List (Int×Value))(Ls:List BHeld)(hbs:MapAt G0 mbs ess cks)(hms:MapIs (Value.int .i64) ess cks xss)(hSs:StR G0 xss Ls)(hVs:Sp.VH Ls) :
  Calls Tryz.prog 71 #[.map (some mbs)] w0 (RetN w0 G0 (fun v Bs=>∃(F:Fr),Bs=[frag F]∧OHs F v Ls)):=by
 have hl16:=hVs.len
 have H:=Hp.init hG
 refine calls_of_W (l:=[.map (some mbs)]) func71 Z ntmps71 Z (q2 (aG Z (q1 (mV Z ?_))))
 have hml1:=hSs.len
 refine o_lenM (hbs.at H.sub) hms underlying96 Z Z (o_make0 (c:=Ls.length) (sz:=3) (bytes:=40) H underlying23 typeInfo134 ⟨_,Z,Z⟩ Z Z Z Z Z Z oM oM Z ?_);intro _ _ H
 refine aG Z (q3 (W_seq (q2 (mV Z (o_call call107 Z Z (keys_c _ _ H.sub _) ?_)))));rintro _ w3 ⟨kb3,rfl,hkb3,ek3,hkc3⟩;have H:=H.step ek3;refine⟨_,rfl,?_⟩
 refine o_call call106 Z Z (sorted_c _ _ _ hkc3 (hbs.at H.sub) hms hSs hVs) ?_;rintro _ w4 ⟨v4,rfl,ek4,hp4,hf4⟩;have H:=H.add ek4 _ hp4 hf4 (acc_nd _ _ _ _ _)
 have hchk4:=chkIds G0 hVs;obtain⟨_,_,rfl⟩:=H.accShape (k:=0) rfl;refine⟨_,rfl,?_⟩
 refine lN Z (mV Z (q3 (W_block ?_)))
 obtain⟨G5,H,hsg5,hsr5⟩:=H.shut' (k:=0) rfl hchk4 aN aN
 have hSs:=hSs.up hsg5
 have hbs:=hbs.up hsg5
 have H:=H.addF
 refine W_lp (hf:=(Sub.cons (t:=0) Z (Sub.cons (t:=2) Z (Sub.cons (t:=12) Z (Sub.cons (t:=13) Z Sub.nil))))) (J:=fun M w m=>∃(v:Value) (n:Nat) (cs:List Value) (xs:List (BHeld)) (F:Fr) (k:Nat) (G:PH),M=[(14,.int .i64 (k:Int)),(3,v)]∧PLe G5 G∧Hp w0 G0 [] w G [frag F,acc 134 3 v n cs]∧(ChkF heldO 3 cs xs F∧n=xs.length∧k≤Ls.length∧xs=Ls.take k)∧m=(Ls.length-k)) (h0:=⟨_,_,_,[],[],0,_,Z,PLe.refl _,H,?inv,Z⟩) (round:=?round)
 case inv=>exact⟨ChkF.nil,by first|rfl|simp|(simp;omega)|omega,(by simp)⟩
 case round =>
  rintro _ _ _ ⟨v,n,cs,xs,F,k,G6,rfl,hle6,H,hinv6,rfl⟩
  have hSs:=hSs.up hle6
  have hbs:=hbs.up hle6
  have hsr5:=hsr5.up hle6
  obtain⟨hchk6_0,_,hinv6⟩:=hinv6
  obtain⟨_,_,rfl⟩:=H.accShape (k:=1) rfl
  obtain⟨_,hxs⟩:=hinv6;have hxl:xs.length≤16:=by rw[hxs];simp;omega
  refine q2 (pe 1 Z (q3 (W_seq ?_)))
  refine W_cond Z ?_ ?_
  ·intro hc7
   try simp only[nrm]at hc7
   refine W_skip (N_K (W_seq (W_block (q2 (iP k hsr5 Z3 Z ?_)))));intro _ _ z8 _ hz8 hE8 hrow8
   obtain⟨rfl,_⟩:=hE8
   refine lP H hrow8 0 Z2 (aG Z (q1 (pe 2 Z (o_lookS (hbs.at H.sub) hms hSs underlying96 underlying3 zeroValue134 Z Z Z ?_))));intro _ hE9
   obtain⟨_,_,_,rfl,_,hr9,_,_,_⟩:=ox hE9
   have hgb:=Sp.get_len hVs z8
   have hat:=Sp.get_at hVs hz8
   refine xal H Z ?_;intro _ _ _ H
   refine xst 0 H Z8 ?_;intro _ H
   refine q3 (W_drawK [0] 11 H kR Z ?_);intro _ H;have hd12:=PLe.refl G6
   refine dE 0 Z2 (dE 1 Z2 (dF 2 1 Z2 (dB 3 0 Z4 (dF 5 2 Z2 (dB 6 0 Z4 (r1 4 Z (xc Z2 (l_Clone_c _ _ H.sub _ _ hr9) ?_)))))))
   rintro _ _ ⟨_,_,_,g13,rfl,⟨_,rfl,hchk13⟩,hp13,hq13,hs13⟩
   have H:=H.growO g13 hp13 hq13 hs13;obtain⟨_,_,rfl⟩:=H.accShape (k:=0) rfl
   have hle6:=hle6.trans g13.le
   have hd12:=hd12.trans g13.le
   refine⟨_,Z,?_⟩
   refine q4 H hd12 (RD_t 7 Z kR Z (fun _ hK=>v_build bf134 Z Z) (r1 8 Z (xbs H Z7 ?_)));intro _ _ _ H
   refine q4 H hd12 (r1 9 Z (o_append1 3 H (sz:=3) (bytes:=40) underlying23 typeInfo134 ⟨_,Z,Z⟩ Z Z Z Z Z Z Z Z Z Z oM Z ?_));intro _ _ H
   obtain⟨Fi2,H,hOI2⟩:=H.ownI (k:=0) rfl hchk13 aN aN
   have hchk15:=hchk6_0.snoc (show heldO Fi2 ⟨z8,(getH Ls z8).bytes,(getH Ls z8).uses⟩ _ from⟨_,_,_,rfl,⟨by first|omega|(dsimp only;omega),by first|omega|(dsimp only;omega)⟩,hOI2,⟨by first|omega|(dsimp only;omega),by first|omega|(dsimp only;omega)⟩⟩) rfl
   have H:=H.tF 2
   have H:=H.mergeF
   obtain⟨_,_,rfl⟩:=H.accShape (k:=2) rfl
   refine q4 H hd12 (dE 10 Z2 (rz (N_B (N_K (W_region (aD Z2 (mV Z (R_nil ?_))))))))
   have H:=H.dl 1
   refine N_lp (hJ:=⟨_,_,_,(xs++[⟨z8,(getH Ls z8).bytes,(getH Ls z8).uses⟩]),(F++Fi2),k+1,_,Z,hle6,H,?inv,Z⟩) (hm:=?hm)
   case hm=>omega
   case inv=>exact⟨hchk15,aN,(by exact⟨by omega,by rw[Sp.take_succ' hat,hxs]⟩)⟩
  intro hc7'
  try simp only[nrm]at hc7'
  refine W_exit (N_K_exit (N_LP_exit (N_B_same (N_K (q2 (pe 2 Z (q3 (W_ret (rt1 results71 Z ?_)))))))))
  have H:=H.tF 1
  obtain⟨_,H,hOw3⟩:=H.ownF hchk6_0 aN aN
  have hX:xs=Ls:=by rw[hxs,List.take_of_length_le oM]
  have H:=H.forget hG (by simp)
  exact⟨_,_,Z,H,_,Z,hX▸⟨_,hOw3⟩⟩
theorem i_newVolume_c (w0:World)(G0:PH)(hG:PSub G0 w0)(vstore:Value)(store:List (BHeld))(hstore:RdH G0 vstore store)(vtree:Value)(tree:List (BItem))(htree:RdItems G0 vtree tree)(hLent:Lent w0 G0 []) :
  Calls Tryz.prog 44 #[vstore,vtree] w0 (RetM w0 G0 [] (fun G' v Bs=>(v= .tuple #[.agg #[.map none,.pointer none],.bool false]∧Bs=[]∧(Sp.StoreValid store&&Sp.TreeValid tree)=false)∨(∃(mb:Nat) (es:Array MapEntry) (ck:Nat) (xs:List (Int×Value)) (T:Nd) (F:Fr),v= .tuple #[.agg #[.map (some mb),.pointer (some ⟨T.b,0,none⟩)],.bool true]∧Bs=[blk mb (.map es ck),frag F]∧MapIs (Value.int .i64) es ck xs∧StR G' xs store∧Sp.VH store∧NdO 143 97 G' T F∧Nd.TOK T tree∧Sp.TreeValid tree=true))):=by
 obtain⟨astore,kstore,rfl⟩:=hstore.shape
 have hlimstore:store.length≤1099511627776:=hstore.lim
 obtain⟨atree,ktree,rfl⟩:=htree.shape
 have hlimtree:tree.length≤1099511627776:=htree.lim
 have H:Hp w0 G0 [] w0 G0 []:=hLent.hp
 refine calls_of_W (l:=[.slice astore store.length kstore,.slice atree tree.length ktree]) func44 Z ntmps44 Z (q2 (xal H Z ?_));intro _ _ _ H
 refine aG Z (q1 (mV Z (xc Z2 (i_openStore_c _ _ H.sub _ _ hstore H.lent0) ?_)))
 rintro _ _ ⟨_,_,_,rfl,H2',⟨_,rfl,rfl⟩|⟨hV2,_,_,_,_,rfl,rfl,hm2,hS2⟩⟩
 ·skip
  have H:=H.borrow0 H2'
  refine⟨_,Z,?_⟩
  refine pe 5 Z (q3 (W_seq (q2 (pe 2 Z (q3 (W_true Z (q2 (o_build bf99 Z Z Z (xst 0 H Z8 ?_)))))))));intro _ H
  refine aG Z (q3 (W_ret (N_K_ret (ret_gen (rs:=[.cell 4 99,.tmp 5]) (vs:=[_,_]) results44 ⟨⟨_,Z,load_blk 0 H isAgg99 sizeOf99 Z Z Z⟩,Z,trivial⟩ ?_))))
  have H:=H.dl 0
  exact H.retM (.inl ⟨rfl,rfl,by simp_all⟩)
 skip
 have htree:=htree.up H2'.le
 have H:=H.borrow0 H2'
 refine⟨_,Z,?_⟩
 refine pe 5 Z (q3 (W_seq (q2 (pe 2 Z (q3 (W_false Z (W_skip (N_K (q2 (mV Z (xc Z2 (i_openTree_c _ _ H.sub _ _ htree H.lent0) ?_)))))))))))
 rintro _ _ ⟨_,_,_,rfl,H4',⟨rfl,rfl,hv4⟩|⟨_,_,rfl,rfl,hN4,hT4,hv4⟩⟩
 ·skip
  have H:=H.borrow0 H4'
  refine⟨_,Z,?_⟩
  refine pe 5 Z (q3 (W_seq (q2 (pe 2 Z (q3 (W_true Z (q2 (o_build bf99 Z Z Z (xst 1 H Z8 ?_)))))))));intro _ H
  refine aG Z (q3 (W_ret (N_K_ret (ret_gen (rs:=[.cell 4 99,.tmp 5]) (vs:=[_,_]) results44 ⟨⟨_,Z,load_blk 1 H isAgg99 sizeOf99 Z Z Z⟩,Z,trivial⟩ ?_))))
  have H:=H.dl 0
  have H:=H.dl 0
  exact H.retM (.inl ⟨rfl,rfl,by simp_all⟩)
 skip
 have hS2:=hS2.up H4'.le
 have H:=H.borrow0 H4'
 refine⟨_,Z,?_⟩
 refine pe 5 Z (q3 (W_seq (q2 (pe 2 Z (q3 (W_false Z (W_skip (N_K (q2 (pe 2 Z (o_build bf99 Z Z Z (xst 2 H Z8 ?_))))))))))));intro _ H
 refine aG Z (q3 (W_ret (ret_gen (rs:=[.cell 4 99,.tmp 5]) (vs:=[_,_]) results44 ⟨⟨_,Z,load_blk 2 H isAgg99 sizeOf99 Z Z Z⟩,Z,trivial⟩ ?_)))
 have H:=H.dl 2
 have H:=H.tF 1
 exact H.retM (.inr ⟨_,_,_,_,_,_,Z,Z,hm2,hS2,hV2,hN4,hT4,hv4⟩)
theorem i_keepTree_c (w0:World)(G0:PH)(hG:PSub G0 w0)(mbs:Nat)(ess:Array MapEntry)(cks:Nat)(xss:List (Int×Value))(Ls:List BHeld)(hms:MapIs (Value.int .i64) ess cks xss)(hSs:StR G0 xss Ls)(hVs:Sp.VH Ls)(Ft:Fr)(t:Nd)(hNt:NdO 143 97 G0 t Ft)(hLent:Lent w0 G0 [blk mbs (.map ess cks),frag Ft])(hwt:t.wf)(hct:t.cnt≤1000) :
  Calls Tryz.prog 64 #[.map (some mbs),.pointer (some ⟨t.b,0,none⟩)] w0 (RetM w0 G0 (fps [blk mbs (.map ess cks),frag Ft]) (fun G' v Bs=>∃(es':Array MapEntry) (ck':Nat) (xs':List (Int×Value)) (L':List BHeld),v= .bool (Sp.l12Keep Ls (t.flat [])).isSome∧Bs=[blk mbs (.map es' ck'),frag Ft]∧MapIs (Value.int .i64) es' ck' xs'∧StR G' xs' L'∧Sp.VH L'∧∀l,Sp.l12Keep Ls (t.flat [])=some l→L'=l)):=by
 have hfl:=Nd.flat_len [] t
 have H:Hp w0 G0 (fps [blk mbs (.map ess cks),frag Ft]) w0 G0 [blk mbs (.map ess cks),frag Ft]:=hLent.hp
 refine calls_of_W (l:=[.map (some mbs),.pointer (some ⟨t.b,0,none⟩)]) func64 Z ntmps64 Z (q2 (aG Z (q3 (W_seq (q2 (mV Z (xc Z2 (i_tlist_c _ _ (H.lendSubL [1]) _ ((H.lendN (k:=1) (ks:=[1]) Z Z hNt).at (show Nd.at_ t []=some t from Z)) hwt hct) ?_)))))))
 rintro _ _ ⟨_,_,rfl,H1',⟨_,rfl,hO1⟩⟩
 have H:=H.readersL H1'
 obtain⟨_,hP1⟩:=hO1
 obtain⟨_,_,rfl⟩:=OwnS.shape hP1
 have hO1:=OIs.mk hP1
 refine⟨_,Z,?_⟩
 have hdm1:=dm_nodup H (k:=0) rfl;obtain⟨Gk1,H,hkl1,hks1⟩:=H.keepF (k:=0) rfl (H.apart (k:=0) (ks:=[1,2]) rfl rfl (by intro b hb;simp only[fps,List.flatMap_cons,List.flatMap_nil,List.append_nil,List.mem_append]at hb;rcases hb with h|h;(· exact fpsAt_mem (k:=1) rfl rfl b (by exact h));(· exact fpsAt_mem (k:=2) rfl rfl b (by exact h))))
 have hrk1:=hO1.rd hks1 hdm1
 have hSs:=hSs.up hkl1
 have hn_hrk1:=hrk1.len
 refine lN Z (mV Z (q3 (W_block ?_)))
 refine W_lp (hf:=(Sub.cons (t:=0) Z (Sub.cons (t:=8) Z (Sub.cons (t:=9) Z Sub.nil)))) (J:=fun M w m=>∃(esm0:Array MapEntry) (ckm0:Nat) (xsm0:List (Int×Value)) (Lm0:List BHeld) (k:Nat) (G:PH),M=[(10,.int .i64 (k:Int))]∧PLe Gk1 G∧Hp w0 G0 (fps [blk mbs (.map ess cks),frag Ft]) w G [blk mbs (.map esm0 ckm0),frag Ft]∧(MapIs (Value.int .i64) esm0 ckm0 xsm0∧StR G xsm0 Lm0∧Sp.VH Lm0∧k≤(t.flat []).length∧Sp.foldB Sp.keepT ((t.flat []).take k) (some Ls)=some Lm0)∧m=((t.flat []).length-k)) (h0:=⟨_,_,xss,Ls,0,_,Z,PLe.refl _,H,?inv,Z⟩) (round:=?round)
 case inv=>exact⟨hms,hSs,hVs,(by simp[Sp.foldB])⟩
 case round =>
  rintro _ _ _ ⟨esm0,ckm0,xsm0,Lm0,k,_,rfl,hle2,H,hinv2,rfl⟩
  have hrk1:=hrk1.up hle2
  obtain⟨hm2_m0,hS2_m0,hV2_m0,hinv2⟩:=hinv2
  obtain⟨_,hf⟩:=hinv2
  refine q2 (pe 1 Z (q3 (W_seq ?_)))
  refine W_cond Z ?_ ?_
  ·intro hc3
   try simp only[nrm]at hc3
   refine W_skip (N_K (W_seq (W_block (q2 (iP k hrk1 Z3 Z ?_)))));intro _ _ z4 _ hz4 hE4 hrow4
   obtain⟨_,_,_,rfl,_,hr4,_,_⟩:=ox hE4
   refine o_loadagg_P H isAgg66 sizeOf66 Z Z hrow4 Z (xal H Z ?_);intro _ _ _ H
   refine xst 0 H Z8 ?_;intro _ H
   refine q1 (mV Z (fA 2 Z (lB 0 H Z3 ?_)))
   have H:=H.tF 1
   refine xc Z2 (i_keepFile_c _ _ H.sub _ _ _ _ _ hm2_m0 hS2_m0 hV2_m0 _ _ hr4 H.lent1) ?_
   rintro _ _ ⟨_,_,_,rfl,H7',⟨_,_,xs7,L7,rfl,rfl,hm7,hS7,hV7,hL7⟩⟩
   have hle2:=hle2.trans H7'.le
   have H:=H.borrow1 H7'
   refine⟨_,Z,?_⟩
   refine pe 1 Z (q3 ?_)
   refine W_cond Z ?_ ?_
   ·intro hc8
    try simp only[nrm]at hc8
    refine q2 (aG Z (q3 (W_ret (N_B_ret (N_K_ret (N_LP_ret (N_B_ret (N_K_ret (rt1 results64 Z ?_)))))))))
    have H:=H.dl 1
    have H:=H.tF 1
    have H:=H.tF 1
    have hno:Sp.l12Keep Ls (t.flat [])=none:=by (have hno:Sp.keepT Lm0 z4=none:=(show Sp.foldB Sp.StoreKeep z4.ids (some Lm0)=none by simpa using hc8));exact Sp.foldB_stop hf hz4 hno
    exact H.retM ⟨_,_,_,_,congrArg Value.bool (by rw[hno];rfl),rfl,hm7,hS7,hV7,fun l hl=>by rw[hno]at hl;cases hl⟩
   intro hc8'
   try simp only[nrm]at hc8'
   obtain⟨p,hsp⟩:=Option.isSome_iff_exists.1 (show(Sp.foldB Sp.StoreKeep z4.ids (some Lm0)).isSome=true by simpa using hc8')
   have hLp:=hL7 p hsp;subst hLp
   have hsp:Sp.keepT Lm0 z4=some L7:=hsp
   refine W_skip (N_B (N_K (W_region (aD Z2 (mV Z (R_nil ?_))))))
   have H:=H.dl 1
   refine N_lp (hJ:=⟨_,_,xs7,L7,k+1,_,Z,hle2,H,?inv,Z⟩) (hm:=?hm)
   case hm=>omega
   case inv=>exact⟨hm7,hS7,hV7,(by exact⟨by omega,Sp.foldB_succ hf hz4 hsp⟩)⟩
  intro hc3'
  try simp only[nrm]at hc3'
  refine W_exit (N_K_exit (N_LP_exit (N_B_same (N_K (q2 (aG Z (q3 (W_ret (rt1 results64 Z ?_)))))))))
  have H:=H.tF 1
  have H:=H.tF 1
  have hyes:Sp.l12Keep Ls (t.flat [])=some Lm0:=Sp.foldB_all hf oM
  exact H.retM ⟨_,_,_,_,congrArg Value.bool (by rw[hyes];rfl),rfl,hm2_m0,hS2_m0,hV2_m0,fun l hl=>by rw[hyes]at hl;cases hl;rfl⟩
theorem i_snapAt_c (w0:World)(G0:PH)(hG:PSub G0 w0)(db:Nat)(m1 m2 v1 v2 vs:Value)(sn:List (Bs×Nd))(hdk:PRow G0 db 0 [m1,m2,v1,v2,vs])(hsn:RdS LIM osE 2 G0 vs sn)(nm:Bs)(hnm:nm.length≤16777216) :
  Calls Tryz.prog 47 #[.pointer (some ⟨db,0,none⟩),str nm] w0 (Rets w0 (.int .i64 (Sp.optI (sn.findIdx? (fun x=>decide (x.1=nm)))))):=by
 obtain⟨_,_,rfl⟩:=hsn.shape;have hlimsn:sn.length≤1099511627776:=hsn.lim
 have H:=Hp.init hG
 refine calls_of_W (l:=[.pointer (some ⟨db,0,none⟩),str nm]) func47 Z ntmps47 Z (q2 (aG Z (q3 (W_seq (q2 (pe 2 Z (fA 4 Z (lP H hdk 4 Z2 (lN Z (mV Z (q3 (W_block ?_))))))))))))
 refine W_lp (hf:=(Sub.cons (t:=1) Z (Sub.cons (t:=10) Z (Sub.cons (t:=11) Z Sub.nil)))) (J:=fun M w m=>∃(k:Nat) (G:PH),M=[(12,.int .i64 (k:Int))]∧PLe G0 G∧Hp w0 G0 [] w G []∧(k≤sn.length∧∀(j:Nat) (x:Bs×Nd),j<k→sn[j]? = some x→decide (x.1=nm)=false)∧m=(sn.length-k)) (h0:=⟨0,_,Z,PLe.refl _,H,?inv,Z⟩) (round:=?round)
 case inv=>exact⟨by omega,fun j x hj=>by omega⟩
 case round =>
  rintro _ _ _ ⟨k,_,rfl,hle1,H,hinv1,rfl⟩
  have hsn:=hsn.up hle1
  obtain⟨_,hno⟩:=hinv1
  refine q2 (pe 1 Z (q3 (W_seq ?_)))
  refine W_cond Z ?_ ?_
  ·intro hc2
   try simp only[nrm]at hc2
   refine W_skip (N_K (W_seq (W_block (q2 (mV Z (iP k hsn Z3 Z ?_))))));intro _ _ _ _ hz3 hE3 hrow3
   obtain⟨rfl,hi3⟩:=hE3;have hy_hi3:_≤16777216:=hi3
   refine o_loadagg_P H isAgg117 sizeOf117 Z Z hrow3 Z (xal H Z ?_);intro _ _ _ H
   refine aG Z (xst 0 H Z8 ?_);intro _ H
   refine q1 (fA 0 Z (lB 0 H Z3 (mV Z (o_seql Z Z Z (q3 ?_)))))
   refine W_cond Z ?_ ?_
   ·intro hc6
    try simp only[nrm]at hc6
    refine q2 (pe 2 Z (q3 (W_ret (N_B_ret (N_K_ret (N_LP_ret (N_B_ret (N_K_ret (rt1 results47 Z ?_)))))))))
    exact H.rets (congrArg (Value.int .i64) (by rw[Sp.fidx_some (p:=fun x:Bs×Nd=>decide (x.1=nm)) hno hz3 (by simpa using hc6)];rfl))
   intro hc6'
   try simp only[nrm]at hc6'
   refine W_skip (N_B (N_K (W_region (aD Z2 (mV Z (R_nil ?_))))))
   have H:=H.dl 0
   refine N_lp (hJ:=⟨k+1,_,Z,hle1,H,?inv,Z⟩) (hm:=?hm)
   case hm=>omega
   case inv=>exact⟨by omega,Sp.fidx_step hno hz3 (by simpa using hc6')⟩
  intro hc2'
  try simp only[nrm]at hc2'
  refine W_exit (N_K_exit (N_LP_exit (N_B_same (N_K (q2 (aG Z (q3 (W_ret (rt1 results47 Z ?_)))))))))
  exact H.rets (congrArg (Value.int .i64) (by rw[Sp.fidx_none (p:=fun x:Bs×Nd=>decide (x.1=nm)) (fun j x hj=>hno j x oM)];rfl))
theorem i_newDisk_c (w0:World)(G0:PH)(hG:PSub G0 w0)(cd:List Value)(d:BDisk)(hd:diskE G0 d cd)(hLent:Lent w0 G0 []) :
  Calls Tryz.prog 20 #[.agg cd.toArray] w0 (RetM w0 G0 [] (fun G' v Bs=>(v= .tuple #[.pointer none,.bool false]∧Bs=[]∧Sp.DiskValid d=false)∨(∃(db mb:Nat) (es:Array MapEntry) (ck:Nat) (xs:List (Int×Value)) (T:Nd) (F:Fr) (sv:Value) (sn:List (Fw.Bs×Nd)) (c:List Value) (FSq:Fr),v= .tuple #[.pointer (some ⟨db,0,none⟩),.bool true]∧Bs=[blk db (cl [.int .i32 0,.int .u32 0,.map (some mb),.pointer (some ⟨T.b,0,none⟩),sv] 111),blk mb (.map es ck),frag F,acc 117 2 sv sn.length c,frag FSq]∧MapIs (Value.int .i64) es ck xs∧StR G' xs d.store∧NdO 143 97 G' T F∧Nd.TOK T d.tree∧Chk osE 2 G' c sn∧NdsO 143 97 G' (sn.map (·.2)) FSq∧SnOK sn d.snaps∧Sp.DiskValid d=true))):=by
 obtain⟨_,_,_,_,_,_,_,_,_,rfl,hr1,hr1',hr1'',⟨_,_⟩,⟨_,_⟩,_,_⟩:=ox hd
 have H:Hp w0 G0 [] w0 G0 []:=hLent.hp
 refine calls_of_W (l:=[_]) func20 Z ntmps20 Z (q2 (o_box H Z Z Z ?_));intro b2 _ _ H
 refine pe 2 Z (q1 (fA 0 Z (lB 0 H Z3 (fA 1 Z (lB 0 H Z3 (xc Z2 (i_newVolume_c _ _ H.sub _ _ hr1 _ _ hr1' H.lent0) ?_))))))
 rintro _ _ ⟨G3,_,_,rfl,H3',⟨rfl,rfl,hnv3⟩|⟨mb3,es3,ck3,_,T3,F3,rfl,rfl,hm3,hS3,hV3,hN3,hT3,hv3⟩⟩
 ·skip
  have H:=H.borrow0 H3'
  refine⟨_,Z,?_⟩
  refine pe 3 Z (xal H Z ?_);intro _ _ _ H
  refine xst 0 H Z8 ?_;intro _ H
  refine aG Z (q3 (W_seq (q2 (pe 8 Z (q3 (W_true Z (q2 (pe 2 Z (q3 (W_ret (N_K_ret (rt2 results20 Z Z ?_))))))))))))
  have H:=H.dl 0
  have H:=H.dl 0
  exact H.retM (.inl ⟨rfl,rfl,Sp.dv_no (fun hh=>by simp[hh.1,hh.2.1]at hnv3)⟩)
 skip
 have hr1'':=hr1''.up H3'.le
 have H:=H.borrow0 H3'
 refine⟨_,Z,?_⟩
 refine pe 3 Z (xal H Z ?_);intro b6 _ _ H
 refine xst 0 H Z8 ?_;intro _ H
 refine aG Z (q3 (W_seq (q2 (pe 3 Z (gR Z (fA 2 Z (gR Z (lB 3 H Z3 (gR Z (lN Z (pe 2 Z (q3 ?_))))))))))))
 refine W_cond Z ?_ ?_
 ·intro hc8
  try simp only[nrm]at hc8
  refine q2 (pe 2 Z (q3 (W_ret (N_K_ret (rt2 results20 Z Z ?_)))))
  have H:=H.sel [] rfl
  exact H.retM (.inl ⟨rfl,rfl,Sp.dv_no (fun hh=>by have:=hh.2.2.1;omega)⟩)
 intro hc8'
 try simp only[nrm]at hc8'
 refine W_skip (N_K (q2 (lA 0 2 H Z4 (o_build bf111 Z Z Z (o_box H Z Z Z ?_)))));intro b9 _ _ H
 refine aG Z (q1 (fA 1 Z (lB 1 H Z3 (xbs H Z7 ?_))));intro _ _ _ H
 refine aG Z (q3 (W_seq (q2 (fA 2 Z (lB 5 H Z3 (lN Z (mV Z (q3 (W_block ?_)))))))))
 have H:=H.blkAcc 1 (k:=0) (n:=1) rfl rfl (by decide)
 have H:=H.addF
 have H:=H.addNil 117 2
 obtain⟨ln12,hln12,H⟩:=H.nameAt (k:=3) (off:=4) rfl rfl
 obtain⟨ln13,hln13,H⟩:=H.name (k:=4) rfl
 obtain⟨ln14,hln14,H⟩:=H.name (k:=7) rfl
 refine W_lp (hf:=(Sub.cons (t:=4) Z (Sub.cons (t:=6) Z (Sub.cons (t:=35) Z (Sub.cons (t:=36) Z Sub.nil))))) (J:=fun M w m=>∃(v:Value) (n:Nat) (cs:List Value) (xs:List (Bs×Nd)) (v1:Value) (n1:Nat) (cs1:List Value) (xs1:List (Nd)) (k:Nat) (FSq:Fr) (G:PH),M=[(37,.int .i64 (k:Int)),(7,v1)]∧PLe G3 G∧Hp w0 G0 [] w G [acc 117 2 v n cs,frag FSq,acc 97 1 v1 n1 cs1,blk b9 (cl (setN ln12 4 v) 111),blk b6 (cl ln13 99),blk mb3 (.map es3 ck3),frag F3,blk b2 (cl ln14 27)]∧(Chk osE 2 G cs xs∧n=xs.length∧Chk kdE 1 G cs1 xs1∧n1=xs1.length∧k≤d.snaps.length∧xs1=T3::xs.map (·.2)∧NdsO 143 97 G (xs.map (·.2)) FSq∧SnOK xs (d.snaps.take k)∧∀(j:Nat) (s:BSnap),j<k→d.snaps[j]? = some s→Sp.l1Word s.name=true∧(j:Int)≤Sp.l12At d.snaps s.name)∧m=(d.snaps.length-k)) (h0:=⟨_,_,_,[],_,_,_,[T3],0,[],_,Z,PLe.refl _,H,?inv,Z⟩) (round:=?round)
 case inv=>exact⟨(Chk.nil (E:=osE) (sz:=2) (G:=G3)),(by first|rfl|simp|(simp;omega)|omega),(chkK [T3]),by first|rfl|simp|(simp;omega)|omega,(by exact⟨by omega,rfl,by simp[NdsO],.nil,fun j s hj=>by omega⟩)⟩
 case round =>
  rintro _ _ _ ⟨v,n,cs,xs,v1,n1,cs1,xs1,k,FSq,_,rfl,hle15,H,hinv15,rfl⟩
  subst hln12
  subst hln13
  subst hln14
  have hr1'':=hr1''.up hle15
  have hS3:=hS3.up hle15
  have hN3:=hN3.up hle15
  obtain⟨hchk15_0,_,hinv15⟩:=hinv15
  obtain⟨_,_,rfl⟩:=H.accShape (k:=0) rfl
  obtain⟨hchk15_1,_,hinv15⟩:=hinv15
  obtain⟨_,_,rfl⟩:=H.accShape (k:=2) rfl
  obtain⟨_,hx1,hNs,hSn,hw⟩:=hinv15;have hsl:=hSn.len;have hxl6:xs.length≤6:=(by simp at hsl;omega);have hx1l:xs1.length=xs.length+1:=by simp[hx1]
  refine q2 (pe 1 Z (q3 (W_seq ?_)))
  refine W_cond Z ?_ ?_
  ·intro hc16
   try simp only[nrm]at hc16
   refine W_skip (N_K (W_seq (W_block (q2 (iP k hr1'' Z3 Z ?_)))));intro _ _ z17 _ hz17 hE17 hrow17
   obtain⟨_,_,_,rfl,hi17,hr17,_,_⟩:=ox hE17
   refine o_loadagg_P H isAgg81 sizeOf81 Z Z hrow17 Z (xal H Z ?_);intro _ _ _ H
   refine xst 0 H Z8 ?_;intro _ H
   refine q1 (fA 1 Z (lB 0 H Z3 (xc Z2 (i_openTree_c _ _ H.sub _ _ hr17 H.lent0) ?_)))
   rintro _ _ ⟨G20,_,_,rfl,H20',⟨rfl,rfl,hv20⟩|⟨T20,F20,rfl,rfl,hN20,hT20,hv20⟩⟩
   ·skip
    have H:=H.borrow0 H20'
    refine⟨_,Z,?_⟩
    refine pe 5 Z (q3 (W_seq (q2 (pe 15 Z (q3 (W_true Z (q2 (pe 2 Z (q3 (W_ret (N_K_ret (N_B_ret (N_K_ret (N_LP_ret (N_B_ret ?_)))))))))))))))
    refine N_K_ret (rt2 results20 Z Z ?_)
    have H:=H.sel [] rfl
    exact H.retM (.inl ⟨rfl,rfl,Sp.dv_no (fun hh=>by (rw[(hh.2.2.2 k _ hz17).2.2]at hv20);cases hv20)⟩)
   skip
   have hchk15_0:=hchk15_0.up H20'.le
   have hchk15_1:=hchk15_1.up H20'.le
   have hNs:=hNs.up H20'.le
   have hle15:=hle15.trans H20'.le
   have H:=H.borrow0 H20'
   refine⟨_,Z,?_⟩
   refine pe 5 Z (q3 (W_seq (q2 (pe 3 Z (gR Z (fA 0 Z (gR Z (lB 1 H Z3 (gR Z (xr H Z2 (i_partValid_c _ _ hi17) ?_))))))))));intro _ H
   refine pe 3 Z ?_
   refine R_case (t:=55) Z ?_ ?_
   ·intro hc22
    try simp only[nrm]at hc22
    refine pe 6 Z (q3 (W_true Z (q2 (pe 2 Z (q3 (W_ret (N_K_ret (N_B_ret (N_K_ret (N_LP_ret (N_B_ret (N_K_ret (rt2 results20 Z Z ?_)))))))))))))
    have H:=H.sel [] rfl
    exact H.retM (.inl ⟨rfl,rfl,Sp.dv_no (fun hh=>by have h9:=(hh.2.2.2 k _ hz17).1;simp_all)⟩)
   intro hc22'
   try simp only[nrm]at hc22'
   refine pe 1 Z (gR Z (fA 0 Z (gR Z (lB 1 H Z3 (gR Z (xr H Z2 (i_snapAt_c _ _ (H.lendSubL [2,5]) _ _ _ _ _ _ _ (prow_blk (H.lendPredL (k:=5) (ks:=[2,5]) Z Z)) (H.lendRdL (k:=2) (ks:=[2,5]) Z Z hchk15_0 aN aN) _ hi17) ?_))))));intro _ H
   refine pe 2 Z (q3 ?_)
   refine W_cond Z ?_ ?_
   ·intro hc24
    try simp only[nrm]at hc24
    refine q2 (pe 2 Z (q3 (W_ret (N_K_ret (N_B_ret (N_K_ret (N_LP_ret (N_B_ret (N_K_ret (rt2 results20 Z Z ?_))))))))))
    have H:=H.sel [] rfl
    exact H.retM (.inl ⟨rfl,rfl,Sp.dv_no (fun hh=>by have h9:=(Sp.at_take hz17).1 (hh.2.2.2 k _ hz17).2.1;(rw[←Sp.sn_find hSn]at h9);omega)⟩)
   intro hc24'
   try simp only[nrm]at hc24'
   refine W_skip (N_K (W_seq (W_drawK [1,6,9] 14 H kR Z ?_)));intro _ H;have hd25:=PLe.refl G20
   refine dE 0 Z2 (dE 1 Z2 (dE 2 Z2 (dF 3 4 Z2 (dF 5 0 Z2 (dB 6 0 Z4 (dE 7 Z2 (RD_t 8 Z kR Z (fun _ hK=>v_build bf117 Z Z) ?_)))))))
   refine r2 4 9 Z2 ?_ ?_
   ·skip
    refine lB 5 H Z3 (q4 H hd25 (r1 9 Z (xbs H Z7 ?_)));intro _ _ _ H
    refine q4 H hd25 (r1 10 Z (o_append1 2 H (sz:=2) (bytes:=24) underlying109 typeInfo117 ⟨_,Z,Z⟩ Z Z Z Z Z Z Z Z Z Z oM Z ?_));intro _ _ H
    have hchk27:=hchk15_0.snoc (show osE _ (z17.name,T20) _ from⟨rfl,hi17⟩) rfl
    obtain⟨_,_,rfl⟩:=H.accShape (k:=2) rfl
    refine q4 H hd25 (dE 11 Z2 (dF 12 4 Z2 (r1 13 Z ?_)))
    have H:=H.tF 3
    have H:=H.mergeF
    refine xst 4 H Z8 ?_;intro _ H
    refine q4 H hd25 (rz (N_K (W_region (pe 2 Z (xbs H Z7 ?_)))));intro _ _ _ H
    refine o_append1 3 H (sz:=1) (bytes:=8) underlying112 typeInfo97 ⟨_,Z,Z⟩ Z Z Z Z Z Z Z Z Z Z oM Z ?_;intro _ _ H
    have hchk30:=hchk15_1.snoc (show kdE _ T20 _ from rfl) rfl
    obtain⟨_,_,rfl⟩:=H.accShape (k:=3) rfl
    refine aG Z (R_nil (N_B (N_K (W_region (aD Z2 (mV Z (R_nil ?_)))))))
    have H:=H.sel [2,0,3,4,5,6,7,8] rfl
    refine N_lp (hJ:=⟨_,_,_,(xs++[(z17.name,T20)]),_,_,_,(xs1++[T20]),k+1,(FSq++F20),_,Z,hle15,H,?inv,Z⟩) (hm:=?hm)
    case hm=>omega
    case inv=>exact⟨hchk27,aN,hchk30,aN,(by exact⟨by omega,by simp[hx1],by simpa using hNs.snoc hN20,hSn.snoc2 hz17 rfl hT20 hv20,names_step hw hz17 (by simpa using hc22') hSn oM⟩)⟩
   skip
   refine xbs H Z7 ?_;intro _ _ _ H
   refine q4 H hd25 (r1 4 Z (lB 6 H Z3 (q4 H hd25 (r1 10 Z (o_append1 2 H (sz:=2) (bytes:=24) underlying109 typeInfo117 ⟨_,Z,Z⟩ Z Z Z Z Z Z Z Z Z Z oM Z ?_)))));intro _ _ H
   have hchk33:=hchk15_0.snoc (show osE _ (z17.name,T20) _ from⟨rfl,hi17⟩) rfl
   obtain⟨_,_,rfl⟩:=H.accShape (k:=2) rfl
   refine q4 H hd25 (dE 11 Z2 (dF 12 4 Z2 (r1 13 Z ?_)))
   have H:=H.tF 3
   have H:=H.mergeF
   refine xst 4 H Z8 ?_;intro _ H
   refine q4 H hd25 (rz (N_K (W_region (pe 2 Z (xbs H Z7 ?_)))));intro _ _ _ H
   refine o_append1 3 H (sz:=1) (bytes:=8) underlying112 typeInfo97 ⟨_,Z,Z⟩ Z Z Z Z Z Z Z Z Z Z oM Z ?_;intro _ _ H
   have hchk36:=hchk15_1.snoc (show kdE _ T20 _ from rfl) rfl
   obtain⟨_,_,rfl⟩:=H.accShape (k:=3) rfl
   refine aG Z (R_nil (N_B (N_K (W_region (aD Z2 (mV Z (R_nil ?_)))))))
   have H:=H.sel [2,0,3,4,5,6,7,8] rfl
   refine N_lp (hJ:=⟨_,_,_,(xs++[(z17.name,T20)]),_,_,_,(xs1++[T20]),k+1,(FSq++F20),_,Z,hle15,H,?inv,Z⟩) (hm:=?hm)
   case hm=>omega
   case inv=>exact⟨hchk33,aN,hchk36,aN,(by exact⟨by omega,by simp[hx1],by simpa using hNs.snoc hN20,hSn.snoc2 hz17 rfl hT20 hv20,names_step hw hz17 (by simpa using hc22') hSn oM⟩)⟩
  intro hc16'
  try simp only[nrm]at hc16'
  refine W_exit (N_K_exit (N_LP_exit (N_B_same (N_K (W_seq (q2 (fA 0 Z (lB 4 H Z3 (mV Z ?_)))))))))
  refine xr H Z2 (i_usedBy_c _ _ (H.lendSubL [1,2,5,6]) _ _ _ _ _ (H.lendPredL (k:=5) (ks:=[1,2,5,6]) Z Z) hm3 (hS3.up (PPlus.le _ _ _)) hV3 _ _ (RdS.withN (H.lendRdL (k:=2) (ks:=[1,2,5,6]) Z Z hchk15_1 aN aN) (fun t ht=>by (rw[hx1]at ht);rcases List.mem_cons.1 ht with rfl|ht;(· exact H.lendN (k:=6) rfl rfl hN3);(· exact H.lendNs (k:=1) rfl rfl hNs t ht))) oM (fun t ht=>by (rw[hx1]at ht);rcases List.mem_cons.1 ht with rfl|ht;(· exact⟨hT3.wf,by have:=hT3.cnt;have:=Sp.tree_len hv3;omega⟩);(· exact sn_ok hSn t ht))) ?_;intro _ H
  refine pe 1 Z (q3 ?_)
  refine W_cond Z ?_ ?_
  ·intro hc39
   try simp only[nrm]at hc39
   refine q2 (pe 2 Z (q3 (W_ret (N_K_ret (rt2 results20 Z Z ?_)))))
   have H:=H.sel [] rfl
   have hkk:k=d.snaps.length:=by omega
   have hSnf:SnOK xs d.snaps:=by (rw[hkk,List.take_length]at hSn;exact hSn)
   have hwf:∀(j:Nat) (s:BSnap),d.snaps[j]? = some s→Sp.l1Word s.name=true∧(j:Int)≤Sp.l12At d.snaps s.name:=fun j s hs=>hw j s (by have:=(List.getElem?_eq_some_iff.1 hs).1;omega) hs
   exact H.retM (.inl ⟨rfl,rfl,(by (rw[Sp.dv_use (Sp.valid_iff.2 hV3) hT3 oM hSnf hwf,←hx1];unfold Sp.useOK;rw[Bool.and_eq_false_iff];exact hc39))⟩)
  intro hc39'
  try simp only[nrm]at hc39'
  refine W_skip (N_K (q2 (pe 3 Z (q3 (W_ret (rt2 results20 Z Z ?_))))))
  have H:=H.sel [3,5,6,0,1] rfl
  have hkk:k=d.snaps.length:=by omega
  have hSnf:SnOK xs d.snaps:=by (rw[hkk,List.take_length]at hSn;exact hSn)
  have hwf:∀(j:Nat) (s:BSnap),d.snaps[j]? = some s→Sp.l1Word s.name=true∧(j:Int)≤Sp.l12At d.snaps s.name:=fun j s hs=>hw j s (by have:=(List.getElem?_eq_some_iff.1 hs).1;omega) hs
  have hdv:Sp.DiskValid d=true:=by (rw[Sp.dv_use (Sp.valid_iff.2 hV3) hT3 oM hSnf hwf,←hx1];unfold Sp.useOK;simpa using hc39')
  obtain rfl:n=xs.length:=by assumption
  exact H.retM (.inr ⟨_,_,_,_,_,_,_,_,xs,_,_,Z,Z,hm3,hS3,hN3,hT3,hchk15_0,hNs,hSnf,hdv⟩)
end Go.Proofs.Tst
namespace Go.Proofs.Tst
open Go
abbrev muLink:Go.Conc.Locks.MuLink:={lock:=62,unlock:=63,ilock:=95,iunlock:=96,lockSlow:=129,unlockSlow:=132,disable:=125,enable:=127,acquire:=128,relMerge:=130,cas32:=126,add32:=131,tMutex:=108,tIMutex:=106,tPMutex:=163,tPIMutex:=186,tPI32:=188,tUP:=190,tNoCopy:=103,tU32:=104}
theorem muLib:Go.Conc.Locks.MuLib Tryz.prog muLink where
 f_lock:=by kernel_rfl
 f_unlock:=by kernel_rfl
 f_ilock:=by kernel_rfl
 f_iunlock:=by kernel_rfl
 f_disable:=by kernel_rfl
 f_enable:=by kernel_rfl
 f_acquire:=by kernel_rfl
 f_relMerge:=by kernel_rfl
 f_cas32:=by kernel_rfl
 f_add32:=by kernel_rfl
 underlying_tIMutex:=Tryz.underlying106
 runUnderlying_tIMutex:=Tryz.runUnderlying106
 sizeOf_tIMutex:=Tryz.sizeOf106
 isAgg_tIMutex:=Tryz.isAgg106
 zeroValue_tIMutex:=Tryz.zeroValue106
 underlying_tMutex:=Tryz.underlying108
 runUnderlying_tMutex:=Tryz.runUnderlying108
 sizeOf_tMutex:=Tryz.sizeOf108
 isAgg_tMutex:=Tryz.isAgg108
 zeroValue_tMutex:=Tryz.zeroValue108
 underlying_tPMutex:=Tryz.underlying163
 runUnderlying_tPMutex:=Tryz.runUnderlying163
 sizeOf_tPMutex:=Tryz.sizeOf163
 isAgg_tPMutex:=Tryz.isAgg163
 zeroValue_tPMutex:=Tryz.zeroValue163
 underlying_tPIMutex:=Tryz.underlying186
 runUnderlying_tPIMutex:=Tryz.runUnderlying186
 sizeOf_tPIMutex:=Tryz.sizeOf186
 isAgg_tPIMutex:=Tryz.isAgg186
 zeroValue_tPIMutex:=Tryz.zeroValue186
 underlying_tPI32:=Tryz.underlying188
 runUnderlying_tPI32:=Tryz.runUnderlying188
 sizeOf_tPI32:=Tryz.sizeOf188
 isAgg_tPI32:=Tryz.isAgg188
 zeroValue_tPI32:=Tryz.zeroValue188
 underlying_tUP:=Tryz.underlying190
 runUnderlying_tUP:=Tryz.runUnderlying190
 sizeOf_tUP:=Tryz.sizeOf190
 isAgg_tUP:=Tryz.isAgg190
 zeroValue_tUP:=Tryz.zeroValue190
 underlying_tNoCopy:=Tryz.underlying103
 runUnderlying_tNoCopy:=Tryz.runUnderlying103
 sizeOf_tNoCopy:=Tryz.sizeOf103
 isAgg_tNoCopy:=Tryz.isAgg103
 zeroValue_tNoCopy:=Tryz.zeroValue103
 underlying_t21:=Tryz.underlying21
 runUnderlying_t21:=Tryz.runUnderlying21
 sizeOf_t21:=Tryz.sizeOf21
 isAgg_t21:=Tryz.isAgg21
 zeroValue_t21:=Tryz.zeroValue21
 room_tIMutex:=by kernel_rfl
end Go.Proofs.Tst
namespace Go.Proofs.Tst
open Go Fw Tryz
theorem i_disk_c (w0:World)(G0:PH)(hG:PSub G0 w0)(db mb:Nat)(es:Array MapEntry)(ck:Nat)(xs:List (Int×Value))(T:Nd)(FT:Fr)(sv:Value)(sn:List (Bs×Nd))(c:List Value)(FSq:Fr)(d:BDisk)(hm:MapIs (Value.int .i64) es ck xs)(hS:StR G0 xs d.store)(hN:NdO 143 97 G0 T FT)(hT:Nd.TOK T d.tree)(hchk:Chk osE 2 G0 c sn)(hNs:NdsO 143 97 G0 (sn.map (·.2)) FSq)(hSn:SnOK sn d.snaps)(hVd:Sp.VH d.store)(hs6:d.snaps.length≤6)(hLent:Lent w0 G0 [blk db (cl [.int .i32 0,.int .u32 0,.map (some mb),.pointer (some ⟨T.b,0,none⟩),sv] 111),blk mb (.map es ck),frag FT,acc 117 2 sv sn.length c,frag FSq]) :
  Calls Tryz.prog 35 #[.pointer (some ⟨db,0,none⟩)] w0 (RetM w0 G0 (fps [blk db (cl [.int .i32 0,.int .u32 0,.map (some mb),.pointer (some ⟨T.b,0,none⟩),sv] 111),blk mb (.map es ck),frag FT,acc 117 2 sv sn.length c,frag FSq]) (fun G' v Bs=>∃(v1 v2 v3:Value) (F1 F2 F3:Fr),v= .agg #[v1,v2,v3]∧Bs=[frag F1,frag F2,frag F3]∧OHs F1 v1 d.store∧OIs F2 v2 d.tree∧OSn F3 v3 d.snaps)):=by
 have H:Hp w0 G0 (fps [blk db (cl [.int .i32 0,.int .u32 0,.map (some mb),.pointer (some ⟨T.b,0,none⟩),sv] 111),blk mb (.map es ck),frag FT,acc 117 2 sv sn.length c,frag FSq]) w0 G0 [blk db (cl [.int .i32 0,.int .u32 0,.map (some mb),.pointer (some ⟨T.b,0,none⟩),sv] 111),blk mb (.map es ck),frag FT,acc 117 2 sv sn.length c,frag FSq]:=hLent.hp
 obtain⟨adv,cdv,rfl⟩:=H.accShape (k:=3) rfl;have hTv:=hT.valid;have hTc:=hT.cnt;have hTl:=Sp.tree_len hTv;have hsnl:=hSn.len;have hxa:=H.accShape (k:=3) rfl
 refine calls_of_WD (l:=[.pointer (some ⟨db,0,none⟩)]) func35 Z ntmps35 Z (q2 (xal H Z ?_));intro b1 _ _ H
 refine q1 (pe 2 Z (fA 0 Z (o_lock 1 H muLib Z call62 Z Z Z Z ?_)));intro _ H
 refine q1 (pe 2 Z (fA 0 Z (o_defer Z (q3 (W_seq (W_drawK [0,1] 15 H kR Z ?_))))));intro _ H;have hd3:=PLe.refl G0
 refine dE 0 Z2 (dE 1 Z2 (dF 2 2 Z2 (dF 3 0 Z2 (dB 4 1 Z4 (dE 6 Z2 (dE 7 Z2 (dF 8 2 Z2 (dF 9 1 Z2 (dB 10 1 Z4 ?_)))))))))
 refine r2 5 13 Z2 ?_ ?_
 ·skip
  refine xc Z2 (i_slist_c _ _ (H.lendSubL [2]) _ _ _ _ _ (H.lendPredL (k:=2) (ks:=[2]) Z Z) hm (hS.up (PPlus.le _ _ _)) hVd) ?_
  rintro _ _ ⟨_,_,rfl,H4',⟨F4,rfl,hO4⟩⟩
  have H:=H.readersL H4'
  obtain⟨_,hP4⟩:=hO4
  obtain⟨_,_,rfl⟩:=OwnS.shape hP4
  have hO4:=OHs.mk hP4
  refine⟨_,Z,?_⟩
  refine q4 H hd3 ?_
  refine r2 11 13 Z2 ?_ ?_
  ·skip
   refine xc Z2 (i_tlist_c _ _ (H.lendSubL [4]) _ ((H.lendN (k:=4) (ks:=[4]) Z Z hN).at (show Nd.at_ T []=some T from Z)) hT.wf oM) ?_
   rintro _ _ ⟨_,_,rfl,H5',⟨F5,rfl,hO5⟩⟩
   have H:=H.readersL H5'
   obtain⟨_,hP5⟩:=hO5
   obtain⟨_,_,rfl⟩:=OwnS.shape hP5
   have hO5:=OIs.mk hP5
   refine⟨_,Z,?_⟩
   refine q4 H hd3 (RD_t 12 Z kR Z (fun _ hK=>v_build bf27 Z Z) (r1 13 Z (xal H Z ?_)));intro b6 _ _ H
   refine q4 H hd3 (r1 14 Z (xst 0 H Z8 ?_));intro _ H
   refine R_nil (N_DKlast kR kR (N_K (W_seq (q2 (pe 2 Z (fA 4 Z (lB 4 H Z3 (lN Z (mV Z (q3 (W_block ?_)))))))))))
   have H:=H.addNil 81 2
   have H:=H.addF
   obtain⟨ln9,hln9,H⟩:=H.nameAt (k:=2) (off:=2) rfl rfl
   obtain⟨ln10,hln10,H⟩:=H.name (k:=5) rfl
   obtain⟨ln11,hln11,H⟩:=H.name (k:=6) rfl
   refine W_lp (hf:=(Sub.cons (t:=2) Z (Sub.cons (t:=3) Z (Sub.cons (t:=29) Z (Sub.cons (t:=30) Z Sub.nil))))) (J:=fun M w m=>∃(v:Value) (n:Nat) (cs:List Value) (xs:List (BSnap)) (F:Fr) (k:Nat) (G:PH),M=[(31,.int .i64 (k:Int))]∧PLe G0 G∧Hp w0 G0 (fps [blk db (cl [.int .i32 0,.int .u32 0,.map (some mb),.pointer (some ⟨T.b,0,none⟩),.slice adv sn.length cdv] 111),blk mb (.map es ck),frag FT,acc 117 2 (.slice adv sn.length cdv) sn.length c,frag FSq]) w G [frag F,acc 81 2 v n cs,blk b6 (cl (setN ln9 2 v) 27),frag F5,frag F4,blk b1 (cl ln10 27),blk db (cl ln11 111),blk mb (.map es ck),frag FT,acc 117 2 (.slice adv sn.length cdv) sn.length c,frag FSq]∧(ChkF snapO 2 cs xs F∧n=xs.length∧k≤sn.length∧xs=(sn.take k).map (fun x=>(⟨x.1,x.2.flat []⟩:BSnap)))∧m=(sn.length-k)) (h0:=⟨_,_,_,[],[],0,_,Z,PLe.refl _,H,?inv,Z⟩) (round:=?round)
   case inv=>exact⟨ChkF.nil,by first|rfl|simp|(simp;omega)|omega,(by simp)⟩
   case round =>
    rintro _ _ _ ⟨v,n,cs,xs,F,k,G12,rfl,hle12,H,hinv12,rfl⟩
    subst hln9
    subst hln10
    subst hln11
    have hchk:=hchk.up hle12
    have hNs:=hNs.up hle12
    obtain⟨hchk12_0,_,hinv12⟩:=hinv12
    obtain⟨_,_,rfl⟩:=H.accShape (k:=1) rfl
    obtain⟨hk,hxs⟩:=hinv12;have hxl6:xs.length≤6:=by (rw[hxs];simp;omega)
    refine q2 (pe 1 Z (q3 (W_seq ?_)))
    refine W_cond Z ?_ ?_
    ·intro hc13
     try simp only[nrm]at hc13
     refine W_skip (N_K (W_seq (W_block (q2 (o_index_A 9 H k Z hchk underlying109 sizeOf117 Z Z Z Z aN aN ?_)))));intro _ z14 _ hba14 hz14 hE14 hg14;cases hba14
     obtain⟨rfl,hi14⟩:=hE14;have hy_hi14:_≤16777216:=hi14
     refine o_loadagg_A 9 H isAgg117 sizeOf117 Z Z Z hg14 Z (xal H Z ?_);intro _ _ _ H
     refine xst 0 H Z8 ?_;intro _ H
     refine q3 (W_drawK [0,3,6,7] 12 H kR Z ?_);intro _ H;have hd17:=PLe.refl G12
     refine dF 0 2 Z2 (dB 1 1 Z4 (dF 2 0 Z2 (dB 3 0 Z4 (dF 4 1 Z2 (dB 5 0 Z4 (r1 6 Z ?_))))))
     refine xc Z2 (i_tlist_c _ _ (H.lendSubL [11]) _ (H.lendNs (k:=11) (ks:=[11]) Z Z hNs z14.2 (List.mem_map_of_mem (List.mem_of_getElem? hz14))) (sn_ok hSn _ (List.mem_map_of_mem (List.mem_of_getElem? hz14))).1 (by have:=(sn_ok hSn _ (List.mem_map_of_mem (List.mem_of_getElem? hz14))).2;omega)) ?_
     rintro _ _ ⟨_,_,rfl,H18',⟨F18,rfl,hO18⟩⟩
     have H:=H.readersL H18'
     obtain⟨_,hP18⟩:=hO18
     obtain⟨_,_,rfl⟩:=OwnS.shape hP18
     have hO18:=OIs.mk hP18
     refine⟨_,Z,?_⟩
     refine q4 H hd17 (RD_t 7 Z kR Z (fun _ hK=>v_build bf81 Z Z) (r1 8 Z (xbs H Z7 ?_)));intro _ _ _ H
     refine q4 H hd17 (r1 9 Z (o_append1 3 H (sz:=2) (bytes:=40) underlying25 typeInfo81 ⟨_,Z,Z⟩ Z Z Z Z Z Z Z Z Z Z oM Z ?_));intro _ _ H
     have hchk20:=hchk12_0.snoc (show snapO F18 ⟨z14.1,z14.2.flat []⟩ _ from⟨_,_,_,rfl,hi14,hO18⟩) rfl
     have H:=H.tF 2
     have H:=H.mergeF
     obtain⟨_,_,rfl⟩:=H.accShape (k:=2) rfl
     refine q4 H hd17 (dF 10 2 Z2 (r1 11 Z (xst 3 H Z8 ?_)));intro _ H
     refine R_nil (N_DKlast kR kR (N_B (N_K (W_region (aD Z2 (mV Z (R_nil ?_)))))))
     have H:=H.sel [0,2,3,4,5,6,7,8,9,10,11] rfl
     refine N_lp (hJ:=⟨_,_,_,(xs++[⟨z14.1,z14.2.flat []⟩]),(F++F18),k+1,_,Z,hle12,H,?inv,Z⟩) (hm:=?hm)
     case hm=>omega
     case inv=>exact⟨hchk20,aN,(by exact⟨by omega,by (rw[Sp.take_succ' hz14,List.map_append,←hxs];rfl)⟩)⟩
    intro hc13'
    try simp only[nrm]at hc13'
    refine W_exit (N_K_exit (N_LP_exit (N_B_same (N_K (q2 (lA 2 3 H Z4 (xst 5 H Z8 ?_)))))));intro _ H
    refine q3 (W_ret (ret_unlock 6 H muLib Z call63 Z Z (rs:=[.cell 2 27]) results35 ?_));intro _ H
    refine⟨[_],⟨⟨_,Z,load_blk 5 H isAgg27 sizeOf27 Z Z Z⟩,trivial⟩,?_⟩
    have H:=H.tF 1
    obtain⟨_,H,hOw3⟩:=H.ownF hchk12_0 aN aN
    have H:=H.sel [3,2,0] rfl
    have hxs2:xs=d.snaps:=by (rw[hxs,List.take_of_length_le oM];exact sn_list hSn)
    exact H.retM ⟨_,_,_,_,_,_,rfl,rfl,hO4,(by (rw[←hT.flat]);exact hO5),(by have h9:=(show OSn _ _ _ from⟨_,hOw3⟩);(rw[hxs2]at h9);exact h9)⟩
  skip
  refine xal H Z ?_;intro b24 _ _ H
  refine q4 H hd3 (r1 11 Z (xc Z2 (i_tlist_c _ _ (H.lendSubL [5]) _ ((H.lendN (k:=5) (ks:=[5]) Z Z hN).at (show Nd.at_ T []=some T from Z)) hT.wf oM) ?_))
  rintro _ _ ⟨_,_,rfl,H25',⟨F25,rfl,hO25⟩⟩
  have H:=H.readersL H25'
  obtain⟨_,hP25⟩:=hO25
  obtain⟨_,_,rfl⟩:=OwnS.shape hP25
  have hO25:=OIs.mk hP25
  refine⟨_,Z,?_⟩
  refine q4 H hd3 (RD_t 12 Z kR Z (fun _ hK=>v_build bf27 Z Z) (r1 14 Z (xst 1 H Z8 ?_)));intro _ H
  refine R_nil (N_DKlast kR kR (N_K (W_seq (q2 (pe 2 Z (fA 4 Z (lB 4 H Z3 (lN Z (mV Z (q3 (W_block ?_)))))))))))
  have H:=H.addNil 81 2
  have H:=H.addF
  obtain⟨ln28,hln28,H⟩:=H.nameAt (k:=3) (off:=2) rfl rfl
  obtain⟨ln29,hln29,H⟩:=H.name (k:=5) rfl
  obtain⟨ln30,hln30,H⟩:=H.name (k:=6) rfl
  refine W_lp (hf:=(Sub.cons (t:=2) Z (Sub.cons (t:=3) Z (Sub.cons (t:=29) Z (Sub.cons (t:=30) Z Sub.nil))))) (J:=fun M w m=>∃(v:Value) (n:Nat) (cs:List Value) (xs:List (BSnap)) (F:Fr) (k:Nat) (G:PH),M=[(31,.int .i64 (k:Int))]∧PLe G0 G∧Hp w0 G0 (fps [blk db (cl [.int .i32 0,.int .u32 0,.map (some mb),.pointer (some ⟨T.b,0,none⟩),.slice adv sn.length cdv] 111),blk mb (.map es ck),frag FT,acc 117 2 (.slice adv sn.length cdv) sn.length c,frag FSq]) w G [frag F,acc 81 2 v n cs,frag F25,blk b24 (cl (setN ln28 2 v) 27),frag F4,blk b1 (cl ln29 27),blk db (cl ln30 111),blk mb (.map es ck),frag FT,acc 117 2 (.slice adv sn.length cdv) sn.length c,frag FSq]∧(ChkF snapO 2 cs xs F∧n=xs.length∧k≤sn.length∧xs=(sn.take k).map (fun x=>(⟨x.1,x.2.flat []⟩:BSnap)))∧m=(sn.length-k)) (h0:=⟨_,_,_,[],[],0,_,Z,PLe.refl _,H,?inv,Z⟩) (round:=?round)
  case inv=>exact⟨ChkF.nil,by first|rfl|simp|(simp;omega)|omega,(by simp)⟩
  case round =>
   rintro _ _ _ ⟨v,n,cs,xs,F,k,G31,rfl,hle31,H,hinv31,rfl⟩
   subst hln28
   subst hln29
   subst hln30
   have hchk:=hchk.up hle31
   have hNs:=hNs.up hle31
   obtain⟨hchk31_0,_,hinv31⟩:=hinv31
   obtain⟨_,_,rfl⟩:=H.accShape (k:=1) rfl
   obtain⟨hk,hxs⟩:=hinv31;have hxl6:xs.length≤6:=by (rw[hxs];simp;omega)
   refine q2 (pe 1 Z (q3 (W_seq ?_)))
   refine W_cond Z ?_ ?_
   ·intro hc32
    try simp only[nrm]at hc32
    refine W_skip (N_K (W_seq (W_block (q2 (o_index_A 9 H k Z hchk underlying109 sizeOf117 Z Z Z Z aN aN ?_)))));intro _ z33 _ hba33 hz33 hE33 hg33;cases hba33
    obtain⟨rfl,hi33⟩:=hE33;have hy_hi33:_≤16777216:=hi33
    refine o_loadagg_A 9 H isAgg117 sizeOf117 Z Z Z hg33 Z (xal H Z ?_);intro _ _ _ H
    refine xst 0 H Z8 ?_;intro _ H
    refine q3 (W_drawK [0,4,6,7] 12 H kR Z ?_);intro _ H;have hd36:=PLe.refl G31
    refine dF 0 2 Z2 (dB 1 1 Z4 (dF 2 0 Z2 (dB 3 0 Z4 (dF 4 1 Z2 (dB 5 0 Z4 (r1 6 Z ?_))))))
    refine xc Z2 (i_tlist_c _ _ (H.lendSubL [11]) _ (H.lendNs (k:=11) (ks:=[11]) Z Z hNs z33.2 (List.mem_map_of_mem (List.mem_of_getElem? hz33))) (sn_ok hSn _ (List.mem_map_of_mem (List.mem_of_getElem? hz33))).1 (by have:=(sn_ok hSn _ (List.mem_map_of_mem (List.mem_of_getElem? hz33))).2;omega)) ?_
    rintro _ _ ⟨_,_,rfl,H37',⟨F37,rfl,hO37⟩⟩
    have H:=H.readersL H37'
    obtain⟨_,hP37⟩:=hO37
    obtain⟨_,_,rfl⟩:=OwnS.shape hP37
    have hO37:=OIs.mk hP37
    refine⟨_,Z,?_⟩
    refine q4 H hd36 (RD_t 7 Z kR Z (fun _ hK=>v_build bf81 Z Z) (r1 8 Z (xbs H Z7 ?_)));intro _ _ _ H
    refine q4 H hd36 (r1 9 Z (o_append1 3 H (sz:=2) (bytes:=40) underlying25 typeInfo81 ⟨_,Z,Z⟩ Z Z Z Z Z Z Z Z Z Z oM Z ?_));intro _ _ H
    have hchk39:=hchk31_0.snoc (show snapO F37 ⟨z33.1,z33.2.flat []⟩ _ from⟨_,_,_,rfl,hi33,hO37⟩) rfl
    have H:=H.tF 2
    have H:=H.mergeF
    obtain⟨_,_,rfl⟩:=H.accShape (k:=2) rfl
    refine q4 H hd36 (dF 10 2 Z2 (r1 11 Z (xst 4 H Z8 ?_)));intro _ H
    refine R_nil (N_DKlast kR kR (N_B (N_K (W_region (aD Z2 (mV Z (R_nil ?_)))))))
    have H:=H.sel [0,2,3,4,5,6,7,8,9,10,11] rfl
    refine N_lp (hJ:=⟨_,_,_,(xs++[⟨z33.1,z33.2.flat []⟩]),(F++F37),k+1,_,Z,hle31,H,?inv,Z⟩) (hm:=?hm)
    case hm=>omega
    case inv=>exact⟨hchk39,aN,(by exact⟨by omega,by (rw[Sp.take_succ' hz33,List.map_append,←hxs];rfl)⟩)⟩
   intro hc32'
   try simp only[nrm]at hc32'
   refine W_exit (N_K_exit (N_LP_exit (N_B_same (N_K (q2 (lA 3 3 H Z4 (xst 5 H Z8 ?_)))))));intro _ H
   refine q3 (W_ret (ret_unlock 6 H muLib Z call63 Z Z (rs:=[.cell 2 27]) results35 ?_));intro _ H
   refine⟨[_],⟨⟨_,Z,load_blk 5 H isAgg27 sizeOf27 Z Z Z⟩,trivial⟩,?_⟩
   have H:=H.tF 1
   obtain⟨_,H,hOw6⟩:=H.ownF hchk31_0 aN aN
   have H:=H.sel [3,1,0] rfl
   have hxs2:xs=d.snaps:=by (rw[hxs,List.take_of_length_le oM];exact sn_list hSn)
   exact H.retM ⟨_,_,_,_,_,_,rfl,rfl,hO4,(by (rw[←hT.flat]);exact hO25),(by have h9:=(show OSn _ _ _ from⟨_,hOw6⟩);(rw[hxs2]at h9);exact h9)⟩
 skip
 refine xal H Z ?_;intro b43 _ _ H
 refine q4 H hd3 (r1 5 Z (xc Z2 (i_slist_c _ _ (H.lendSubL [3]) _ _ _ _ _ (H.lendPredL (k:=3) (ks:=[3]) Z Z) hm (hS.up (PPlus.le _ _ _)) hVd) ?_))
 rintro _ _ ⟨_,_,rfl,H44',⟨F44,rfl,hO44⟩⟩
 have H:=H.readersL H44'
 obtain⟨_,hP44⟩:=hO44
 obtain⟨_,_,rfl⟩:=OwnS.shape hP44
 have hO44:=OHs.mk hP44
 refine⟨_,Z,?_⟩
 refine q4 H hd3 (r1 11 Z (xc Z2 (i_tlist_c _ _ (H.lendSubL [5]) _ ((H.lendN (k:=5) (ks:=[5]) Z Z hN).at (show Nd.at_ T []=some T from Z)) hT.wf oM) ?_))
 rintro _ _ ⟨_,_,rfl,H45',⟨F45,rfl,hO45⟩⟩
 have H:=H.readersL H45'
 obtain⟨_,hP45⟩:=hO45
 obtain⟨_,_,rfl⟩:=OwnS.shape hP45
 have hO45:=OIs.mk hP45
 refine⟨_,Z,?_⟩
 refine q4 H hd3 (RD_t 12 Z kR Z (fun _ hK=>v_build bf27 Z Z) (r1 14 Z (xst 2 H Z8 ?_)));intro _ H
 refine R_nil (N_DKlast kR kR (N_K (W_seq (q2 (pe 2 Z (fA 4 Z (lB 4 H Z3 (lN Z (mV Z (q3 (W_block ?_)))))))))))
 have H:=H.addNil 81 2
 have H:=H.addF
 obtain⟨ln48,hln48,H⟩:=H.nameAt (k:=4) (off:=2) rfl rfl
 obtain⟨ln49,hln49,H⟩:=H.name (k:=5) rfl
 obtain⟨ln50,hln50,H⟩:=H.name (k:=6) rfl
 refine W_lp (hf:=(Sub.cons (t:=2) Z (Sub.cons (t:=3) Z (Sub.cons (t:=29) Z (Sub.cons (t:=30) Z Sub.nil))))) (J:=fun M w m=>∃(v:Value) (n:Nat) (cs:List Value) (xs:List (BSnap)) (F:Fr) (k:Nat) (G:PH),M=[(31,.int .i64 (k:Int))]∧PLe G0 G∧Hp w0 G0 (fps [blk db (cl [.int .i32 0,.int .u32 0,.map (some mb),.pointer (some ⟨T.b,0,none⟩),.slice adv sn.length cdv] 111),blk mb (.map es ck),frag FT,acc 117 2 (.slice adv sn.length cdv) sn.length c,frag FSq]) w G [frag F,acc 81 2 v n cs,frag F45,frag F44,blk b43 (cl (setN ln48 2 v) 27),blk b1 (cl ln49 27),blk db (cl ln50 111),blk mb (.map es ck),frag FT,acc 117 2 (.slice adv sn.length cdv) sn.length c,frag FSq]∧(ChkF snapO 2 cs xs F∧n=xs.length∧k≤sn.length∧xs=(sn.take k).map (fun x=>(⟨x.1,x.2.flat []⟩:BSnap)))∧m=(sn.length-k)) (h0:=⟨_,_,_,[],[],0,_,Z,PLe.refl _,H,?inv,Z⟩) (round:=?round)
 case inv=>exact⟨ChkF.nil,by first|rfl|simp|(simp;omega)|omega,(by simp)⟩
 case round =>
  rintro _ _ _ ⟨v,n,cs,xs,F,k,G51,rfl,hle51,H,hinv51,rfl⟩
  subst hln48
  subst hln49
  subst hln50
  have hchk:=hchk.up hle51
  have hNs:=hNs.up hle51
  obtain⟨hchk51_0,_,hinv51⟩:=hinv51
  obtain⟨_,_,rfl⟩:=H.accShape (k:=1) rfl
  obtain⟨hk,hxs⟩:=hinv51;have hxl6:xs.length≤6:=by (rw[hxs];simp;omega)
  refine q2 (pe 1 Z (q3 (W_seq ?_)))
  refine W_cond Z ?_ ?_
  ·intro hc52
   try simp only[nrm]at hc52
   refine W_skip (N_K (W_seq (W_block (q2 (o_index_A 9 H k Z hchk underlying109 sizeOf117 Z Z Z Z aN aN ?_)))));intro _ z53 _ hba53 hz53 hE53 hg53;cases hba53
   obtain⟨rfl,hi53⟩:=hE53;have hy_hi53:_≤16777216:=hi53
   refine o_loadagg_A 9 H isAgg117 sizeOf117 Z Z Z hg53 Z (xal H Z ?_);intro _ _ _ H
   refine xst 0 H Z8 ?_;intro _ H
   refine q3 (W_drawK [0,5,6,7] 12 H kR Z ?_);intro _ H;have hd56:=PLe.refl G51
   refine dF 0 2 Z2 (dB 1 1 Z4 (dF 2 0 Z2 (dB 3 0 Z4 (dF 4 1 Z2 (dB 5 0 Z4 (r1 6 Z ?_))))))
   refine xc Z2 (i_tlist_c _ _ (H.lendSubL [11]) _ (H.lendNs (k:=11) (ks:=[11]) Z Z hNs z53.2 (List.mem_map_of_mem (List.mem_of_getElem? hz53))) (sn_ok hSn _ (List.mem_map_of_mem (List.mem_of_getElem? hz53))).1 (by have:=(sn_ok hSn _ (List.mem_map_of_mem (List.mem_of_getElem? hz53))).2;omega)) ?_
   rintro _ _ ⟨_,_,rfl,H57',⟨F57,rfl,hO57⟩⟩
   have H:=H.readersL H57'
   obtain⟨_,hP57⟩:=hO57
   obtain⟨_,_,rfl⟩:=OwnS.shape hP57
   have hO57:=OIs.mk hP57
   refine⟨_,Z,?_⟩
   refine q4 H hd56 (RD_t 7 Z kR Z (fun _ hK=>v_build bf81 Z Z) (r1 8 Z (xbs H Z7 ?_)));intro _ _ _ H
   refine q4 H hd56 (r1 9 Z (o_append1 3 H (sz:=2) (bytes:=40) underlying25 typeInfo81 ⟨_,Z,Z⟩ Z Z Z Z Z Z Z Z Z Z oM Z ?_));intro _ _ H
   have hchk59:=hchk51_0.snoc (show snapO F57 ⟨z53.1,z53.2.flat []⟩ _ from⟨_,_,_,rfl,hi53,hO57⟩) rfl
   have H:=H.tF 2
   have H:=H.mergeF
   obtain⟨_,_,rfl⟩:=H.accShape (k:=2) rfl
   refine q4 H hd56 (dF 10 2 Z2 (r1 11 Z (xst 5 H Z8 ?_)));intro _ H
   refine R_nil (N_DKlast kR kR (N_B (N_K (W_region (aD Z2 (mV Z (R_nil ?_)))))))
   have H:=H.sel [0,2,3,4,5,6,7,8,9,10,11] rfl
   refine N_lp (hJ:=⟨_,_,_,(xs++[⟨z53.1,z53.2.flat []⟩]),(F++F57),k+1,_,Z,hle51,H,?inv,Z⟩) (hm:=?hm)
   case hm=>omega
   case inv=>exact⟨hchk59,aN,(by exact⟨by omega,by (rw[Sp.take_succ' hz53,List.map_append,←hxs];rfl)⟩)⟩
  intro hc52'
  try simp only[nrm]at hc52'
  refine W_exit (N_K_exit (N_LP_exit (N_B_same (N_K (q2 (lA 4 3 H Z4 (xst 5 H Z8 ?_)))))));intro _ H
  refine q3 (W_ret (ret_unlock 6 H muLib Z call63 Z Z (rs:=[.cell 2 27]) results35 ?_));intro _ H
  refine⟨[_],⟨⟨_,Z,load_blk 5 H isAgg27 sizeOf27 Z Z Z⟩,trivial⟩,?_⟩
  have H:=H.tF 1
  obtain⟨_,H,hOw9⟩:=H.ownF hchk51_0 aN aN
  have H:=H.sel [2,1,0] rfl
  have hxs2:xs=d.snaps:=by (rw[hxs,List.take_of_length_le oM];exact sn_list hSn)
  exact H.retM ⟨_,_,_,_,_,_,rfl,rfl,hO44,(by (rw[←hT.flat]);exact hO45),(by have h9:=(show OSn _ _ _ from⟨_,hOw9⟩);(rw[hxs2]at h9);exact h9)⟩
theorem i_clone_r:∀(N:Nat) (w0:World) (G0:PH) (hG:PSub G0 w0) (t:Nd) (hndt:RdN G0 t) (hct:t.cnt≤1000) (hsz:t.size≤N),
  Calls Tryz.prog 66 #[.pointer (some ⟨t.b,0,none⟩)] w0 (RetN w0 G0 (fun v Bs=>∃(F:Fr) (T:Nd),v= .pointer (some ⟨T.b,0,none⟩)∧Bs=[frag F]∧NdC 143 97 T F∧T.strip=t.strip)):=by
 intro N
 induction N with
 | zero=>intro w0 G0 hG t hndt hct hsz;exact absurd (Nd.size_pos t) oM
 | succ N ih =>
 intro w0 G0 hG t hndt hct hsz
 obtain⟨hnlt,_,_,_,_,_,_,hprt,hrit,hrkt⟩:=hndt.open
 have hn_hrit:=hrit.len;have hx_hrit:_≤1099511627776:=hrit.lim
 have hn_hrkt:=hrkt.len;have hx_hrkt:_≤1099511627776:=hrkt.lim
 have H:=Hp.init hG
 refine calls_of_W (l:=[.pointer (some ⟨t.b,0,none⟩)]) func66 Z ntmps66 Z (q2 (aG Z (q3 (W_seq (W_drawK [] 16 H kR Z ?_)))));intro _ H;have hd1:=PLe.refl G0
 refine dE 0 Z2 (dE 1 Z2 (dF 2 0 Z2 (dP 3 hprt 0 Z3 (dE 4 Z2 (dE 5 Z2 (dF 6 1 Z2 (dP 7 hprt 1 Z3 (dE 8 Z2 (dE 9 Z2 (dF 10 2 Z2 (dP 11 hprt 2 Z3 (r1 12 Z (xc Z2 (l_Clone_c _ _ H.sub _ _ hrit) ?_)))))))))))))
 rintro _ _ ⟨G2,_,_,g2,rfl,⟨_,rfl,hchk2⟩,hp2,hq2,hs2⟩
 have H:=H.growO g2 hp2 hq2 hs2;obtain⟨_,_,rfl⟩:=H.accShape (k:=0) rfl
 have hprt:=hprt.up g2.le
 have hrkt:=hrkt.up g2.le
 have hd1:=hd1.trans g2.le
 refine⟨_,Z,?_⟩
 refine q4 H hd1 (RD_t 13 Z kR Z (fun _ hK=>v_build bf143 Z Z) (r1 14 Z (o_box H Z Z Z ?_)));intro b3 _ _ H
 refine q4 H hd1 (dE 15 Z2 (rz (N_K (W_seq (q2 (pe 2 Z (fA 3 Z (lP H hprt 3 Z2 (lN Z (mV Z (q3 (W_block ?_))))))))))))
 obtain⟨Fi1,H,hOI1⟩:=H.ownI (k:=1) rfl hchk2 aN aN
 have hOIc:=hOI1
 have H:=H.addF
 have H:=H.addNil 97 1
 obtain⟨ln5,hln5,H⟩:=H.nameAt (k:=3) (off:=3) rfl rfl
 refine W_lp (hf:=(Sub.cons (t:=2) Z (Sub.cons (t:=3) Z (Sub.cons (t:=24) Z (Sub.cons (t:=25) Z Sub.nil))))) (J:=fun M w m=>∃(v:Value) (n:Nat) (cs:List Value) (xs:List (Nd)) (k:Nat) (FK:Fr) (G:PH),M=[(26,.int .i64 (k:Int))]∧PLe G2 G∧Hp w0 G0 [] w G [acc 97 1 v n cs,frag FK,frag Fi1,blk b3 (cl (setN ln5 3 v) 143)]∧(Chk kdE 1 G cs xs∧n=xs.length∧k≤t.kids.length∧NdsC 143 97 xs FK∧xs.map Nd.strip=(t.kids.take k).map Nd.strip)∧m=(t.kids.length-k)) (h0:=⟨_,_,_,[],0,[],_,Z,PLe.refl _,H,?inv,Z⟩) (round:=?round)
 case inv=>exact⟨(Chk.nil (E:=kdE) (sz:=1) (G:=G2)),by first|rfl|simp|(simp;omega)|omega,(by simp[NdsC])⟩
 case round =>
  rintro _ _ _ ⟨v,n,cs,xs,k,FK,G6,rfl,hle6,H,hinv6,rfl⟩
  subst hln5
  have hrkt:=hrkt.up hle6
  obtain⟨hchk6_0,_,hinv6⟩:=hinv6
  obtain⟨_,_,rfl⟩:=H.accShape (k:=0) rfl
  obtain⟨_,hKs,hst0⟩:=hinv6;have hxl0:=congrArg List.length hst0;simp at hxl0;have hkl0:=Nd.kids_le t
  refine q2 (pe 1 Z (q3 (W_seq ?_)))
  refine W_cond Z ?_ ?_
  ·intro hc7
   try simp only[nrm]at hc7
   refine W_skip (N_K (W_seq (W_block (q2 (iP k hrkt Z3 Z ?_)))));intro _ _ _ _ hz8 hE8 hrow8
   obtain⟨rfl,hnd8⟩:=hE8;obtain⟨_,_,_,_,_,_,_,_,hri8,hrk8⟩:=hnd8.open;have hn_hri8:=hri8.len;have hx_hri8:_≤1099511627776:=hri8.lim;have hn_hrk8:=hrk8.len;have hx_hrk8:_≤1099511627776:=hrk8.lim
   have hzm:=List.mem_of_getElem? hz8;have hzc:=Nd.kid_cnt hzm;have hzs:=Nd.size_kid hzm
   refine lP H hrow8 0 Z2 (aG Z (q3 (W_drawK [] 12 H kR Z ?_)));intro _ H;have hd9:=PLe.refl G6
   refine dE 0 Z2 (dE 1 Z2 (dE 2 Z2 (dF 3 3 Z2 (dE 5 Z2 ?_))))
   refine r2 4 6 Z2 ?_ ?_
   ·skip
    refine lB 3 H Z3 (q4 H hd9 (r1 6 Z (xc Z2 (ih _ _ H.sub _ hnd8 oM oM) ?_)))
    rintro _ _ ⟨_,_,rfl,H10',⟨F10,T10,rfl,rfl,hNC10,hst10⟩⟩
    have H:=H.readers (fp:=[]) (by simp) (PLe.refl _) H10'
    refine⟨_,Z,?_⟩
    refine q4 H hd9 (r1 7 Z (xbs H Z7 ?_));intro _ _ _ H
    refine q4 H hd9 (r1 8 Z (o_append1 1 H (sz:=1) (bytes:=8) underlying112 typeInfo97 ⟨_,Z,Z⟩ Z Z Z Z Z Z Z Z Z Z oM Z ?_));intro _ _ H
    have hchk12:=hchk6_0.snoc (show kdE _ T10 _ from rfl) rfl
    obtain⟨_,_,rfl⟩:=H.accShape (k:=1) rfl
    refine q4 H hd9 (dE 9 Z2 (dF 10 3 Z2 (r1 11 Z ?_)))
    have H:=H.tF 2
    have H:=H.mergeF
    refine xst 3 H Z8 ?_;intro _ H
    refine q4 H hd9 (rz (N_B (N_K (W_region (aD Z2 (mV Z (R_nil ?_)))))))
    have H:=H.sel [1,0,2,3] rfl
    refine N_lp (hJ:=⟨_,_,_,(xs++[T10]),k+1,(FK++F10),_,Z,hle6,H,?inv,Z⟩) (hm:=?hm)
    case hm=>omega
    case inv=>exact⟨hchk12,aN,(by exact⟨by omega,hKs.snoc hNC10,Nd.strip_take hz8 hst0 hst10⟩)⟩
   skip
   refine xc Z2 (ih _ _ H.sub _ hnd8 oM oM) ?_
   rintro _ _ ⟨_,_,rfl,H15',⟨F15,T15,rfl,rfl,hNC15,hst15⟩⟩
   have H:=H.readers (fp:=[]) (by simp) (PLe.refl _) H15'
   refine⟨_,Z,?_⟩
   refine q4 H hd9 ?_
   refine r2 4 7 Z2 ?_ ?_
   ·skip
    refine lB 4 H Z3 (q4 H hd9 (r1 7 Z (xbs H Z7 ?_)));intro _ _ _ H
    refine q4 H hd9 (r1 8 Z (o_append1 1 H (sz:=1) (bytes:=8) underlying112 typeInfo97 ⟨_,Z,Z⟩ Z Z Z Z Z Z Z Z Z Z oM Z ?_));intro _ _ H
    have hchk17:=hchk6_0.snoc (show kdE _ T15 _ from rfl) rfl
    obtain⟨_,_,rfl⟩:=H.accShape (k:=1) rfl
    refine q4 H hd9 (dE 9 Z2 (dF 10 3 Z2 (r1 11 Z ?_)))
    have H:=H.tF 2
    have H:=H.mergeF
    refine xst 3 H Z8 ?_;intro _ H
    refine q4 H hd9 (rz (N_B (N_K (W_region (aD Z2 (mV Z (R_nil ?_)))))))
    have H:=H.sel [1,0,2,3] rfl
    refine N_lp (hJ:=⟨_,_,_,(xs++[T15]),k+1,(FK++F15),_,Z,hle6,H,?inv,Z⟩) (hm:=?hm)
    case hm=>omega
    case inv=>exact⟨hchk17,aN,(by exact⟨by omega,hKs.snoc hNC15,Nd.strip_take hz8 hst0 hst15⟩)⟩
   skip
   refine xbs H Z7 ?_;intro _ _ _ H
   refine q4 H hd9 (r1 4 Z (lB 5 H Z3 (q4 H hd9 (r1 8 Z (o_append1 1 H (sz:=1) (bytes:=8) underlying112 typeInfo97 ⟨_,Z,Z⟩ Z Z Z Z Z Z Z Z Z Z oM Z ?_)))));intro _ _ H
   have hchk21:=hchk6_0.snoc (show kdE _ T15 _ from rfl) rfl
   obtain⟨_,_,rfl⟩:=H.accShape (k:=1) rfl
   refine q4 H hd9 (dE 9 Z2 (dF 10 3 Z2 (r1 11 Z ?_)))
   have H:=H.tF 2
   have H:=H.mergeF
   refine xst 3 H Z8 ?_;intro _ H
   refine q4 H hd9 (rz (N_B (N_K (W_region (aD Z2 (mV Z (R_nil ?_)))))))
   have H:=H.sel [1,0,2,3] rfl
   refine N_lp (hJ:=⟨_,_,_,(xs++[T15]),k+1,(FK++F15),_,Z,hle6,H,?inv,Z⟩) (hm:=?hm)
   case hm=>omega
   case inv=>exact⟨hchk21,aN,(by exact⟨by omega,hKs.snoc hNC15,Nd.strip_take hz8 hst0 hst15⟩)⟩
  intro hc7'
  try simp only[nrm]at hc7'
  refine W_exit (N_K_exit (N_LP_exit (N_B_same (N_K (q2 (pe 2 Z (q3 (W_ret (rt1 results66 Z ?_)))))))))
  have H:=H.sel [0,1,3,2] rfl
  have hst:xs.map Nd.strip=t.kids.map Nd.strip:=by (have h9:=hst0;rw[List.take_of_length_le oM]at h9;exact h9)
  have hxl:=Nd.strip_len hst;have hkl:=Nd.kids_le t
  obtain rfl:n=xs.length:=by assumption
  obtain⟨FT,H,hNC⟩:=Hp.makeC (ks:=xs) (by (have hcc:=hchk6_0.kd;rw[hcc]at H;exact H)) hnlt oM hOIc hKs
  have H:=H.forget hG (by simp)
  exact⟨_,_,Z,H,FT,_,Z,Z,hNC,Nd.strip_mk hst⟩
theorem i_clone_c (w0:World)(G0:PH)(hG:PSub G0 w0)(t:Nd)(hndt:RdN G0 t)(hct:t.cnt≤1000) :
  Calls Tryz.prog 66 #[.pointer (some ⟨t.b,0,none⟩)] w0 (RetN w0 G0 (fun v Bs=>∃(F:Fr) (T:Nd),v= .pointer (some ⟨T.b,0,none⟩)∧Bs=[frag F]∧NdC 143 97 T F∧T.strip=t.strip)):=i_clone_r _ w0 G0 hG t hndt hct (Nat.le_refl _)
theorem i_freeTree_c (w0:World)(G0:PH)(hG:PSub G0 w0)(mbs:Nat)(ess:Array MapEntry)(cks:Nat)(xss:List (Int×Value))(Ls:List BHeld)(hms:MapIs (Value.int .i64) ess cks xss)(hSs:StR G0 xss Ls)(hVs:Sp.VH Ls)(Ft:Fr)(t:Nd)(hNt:NdO 143 97 G0 t Ft)(hLent:Lent w0 G0 [blk mbs (.map ess cks),frag Ft])(hwt:t.wf)(hct:t.cnt≤1000) :
  Calls Tryz.prog 65 #[.map (some mbs),.pointer (some ⟨t.b,0,none⟩)] w0 (RetM w0 G0 (fps [blk mbs (.map ess cks),frag Ft]) (fun G' v Bs=>∃(es':Array MapEntry) (ck':Nat) (xs':List (Int×Value)) (L':List BHeld),v= .bool (Sp.freeTs Ls (t.flat [])).isSome∧Bs=[blk mbs (.map es' ck'),frag Ft]∧MapIs (Value.int .i64) es' ck' xs'∧StR G' xs' L'∧Sp.VH L'∧∀l,Sp.freeTs Ls (t.flat [])=some l→L'=l)):=by
 have hfl:=Nd.flat_len [] t
 have H:Hp w0 G0 (fps [blk mbs (.map ess cks),frag Ft]) w0 G0 [blk mbs (.map ess cks),frag Ft]:=hLent.hp
 refine calls_of_W (l:=[.map (some mbs),.pointer (some ⟨t.b,0,none⟩)]) func65 Z ntmps65 Z (q2 (aG Z (q3 (W_seq (q2 (mV Z (xc Z2 (i_tlist_c _ _ (H.lendSubL [1]) _ ((H.lendN (k:=1) (ks:=[1]) Z Z hNt).at (show Nd.at_ t []=some t from Z)) hwt hct) ?_)))))))
 rintro _ _ ⟨_,_,rfl,H1',⟨_,rfl,hO1⟩⟩
 have H:=H.readersL H1'
 obtain⟨_,hP1⟩:=hO1
 obtain⟨_,_,rfl⟩:=OwnS.shape hP1
 have hO1:=OIs.mk hP1
 refine⟨_,Z,?_⟩
 have hdm1:=dm_nodup H (k:=0) rfl;obtain⟨Gk1,H,hkl1,hks1⟩:=H.keepF (k:=0) rfl (H.apart (k:=0) (ks:=[1,2]) rfl rfl (by intro b hb;simp only[fps,List.flatMap_cons,List.flatMap_nil,List.append_nil,List.mem_append]at hb;rcases hb with h|h;(· exact fpsAt_mem (k:=1) rfl rfl b (by exact h));(· exact fpsAt_mem (k:=2) rfl rfl b (by exact h))))
 have hrk1:=hO1.rd hks1 hdm1
 have hSs:=hSs.up hkl1
 have hn_hrk1:=hrk1.len
 refine lN Z (mV Z (q3 (W_block ?_)))
 refine W_lp (hf:=(Sub.cons (t:=0) Z (Sub.cons (t:=8) Z (Sub.cons (t:=9) Z Sub.nil)))) (J:=fun M w m=>∃(esm0:Array MapEntry) (ckm0:Nat) (xsm0:List (Int×Value)) (Lm0:List BHeld) (k:Nat) (G:PH),M=[(10,.int .i64 (k:Int))]∧PLe Gk1 G∧Hp w0 G0 (fps [blk mbs (.map ess cks),frag Ft]) w G [blk mbs (.map esm0 ckm0),frag Ft]∧(MapIs (Value.int .i64) esm0 ckm0 xsm0∧StR G xsm0 Lm0∧Sp.VH Lm0∧k≤(t.flat []).length∧Sp.foldB Sp.freeF ((t.flat []).take k) (some Ls)=some Lm0)∧m=((t.flat []).length-k)) (h0:=⟨_,_,xss,Ls,0,_,Z,PLe.refl _,H,?inv,Z⟩) (round:=?round)
 case inv=>exact⟨hms,hSs,hVs,(by simp[Sp.foldB])⟩
 case round =>
  rintro _ _ _ ⟨esm0,ckm0,xsm0,Lm0,k,_,rfl,hle2,H,hinv2,rfl⟩
  have hrk1:=hrk1.up hle2
  obtain⟨hm2_m0,hS2_m0,hV2_m0,hinv2⟩:=hinv2
  obtain⟨_,hf⟩:=hinv2
  refine q2 (pe 1 Z (q3 (W_seq ?_)))
  refine W_cond Z ?_ ?_
  ·intro hc3
   try simp only[nrm]at hc3
   refine W_skip (N_K (W_seq (W_block (q2 (iP k hrk1 Z3 Z ?_)))));intro _ _ z4 _ hz4 hE4 hrow4
   obtain⟨_,_,_,rfl,_,hr4,_,_⟩:=ox hE4
   refine o_loadagg_P H isAgg66 sizeOf66 Z Z hrow4 Z (xal H Z ?_);intro _ _ _ H
   refine xst 0 H Z8 ?_;intro _ H
   refine q1 (mV Z (fA 2 Z (lB 0 H Z3 ?_)))
   have H:=H.tF 1
   refine xc Z2 (i_freeFile_c _ _ H.sub _ _ _ _ _ hm2_m0 hS2_m0 hV2_m0 _ _ hr4 H.lent1) ?_
   rintro _ _ ⟨_,_,_,rfl,H7',⟨_,_,xs7,L7,rfl,rfl,hm7,hS7,hV7,hL7⟩⟩
   have hle2:=hle2.trans H7'.le
   have H:=H.borrow1 H7'
   refine⟨_,Z,?_⟩
   refine pe 1 Z (q3 ?_)
   refine W_cond Z ?_ ?_
   ·intro hc8
    try simp only[nrm]at hc8
    refine q2 (aG Z (q3 (W_ret (N_B_ret (N_K_ret (N_LP_ret (N_B_ret (N_K_ret (rt1 results65 Z ?_)))))))))
    have H:=H.dl 1
    have H:=H.tF 1
    have H:=H.tF 1
    have hno:Sp.freeTs Ls (t.flat [])=none:=by (have hno:Sp.freeF Lm0 z4=none:=(show Sp.FileFree Lm0 z4.ids=none by simpa using hc8));exact Sp.foldB_stop hf hz4 hno
    exact H.retM ⟨_,_,_,_,congrArg Value.bool (by rw[hno];rfl),rfl,hm7,hS7,hV7,fun l hl=>by rw[hno]at hl;cases hl⟩
   intro hc8'
   try simp only[nrm]at hc8'
   obtain⟨p,hsp⟩:=Option.isSome_iff_exists.1 (show(Sp.FileFree Lm0 z4.ids).isSome=true by simpa using hc8')
   have hLp:=hL7 p hsp;subst hLp
   have hsp:Sp.freeF Lm0 z4=some L7:=hsp
   refine W_skip (N_B (N_K (W_region (aD Z2 (mV Z (R_nil ?_))))))
   have H:=H.dl 1
   refine N_lp (hJ:=⟨_,_,xs7,L7,k+1,_,Z,hle2,H,?inv,Z⟩) (hm:=?hm)
   case hm=>omega
   case inv=>exact⟨hm7,hS7,hV7,(by exact⟨by omega,Sp.foldB_succ hf hz4 hsp⟩)⟩
  intro hc3'
  try simp only[nrm]at hc3'
  refine W_exit (N_K_exit (N_LP_exit (N_B_same (N_K (q2 (aG Z (q3 (W_ret (rt1 results65 Z ?_)))))))))
  have H:=H.tF 1
  have H:=H.tF 1
  have hyes:Sp.freeTs Ls (t.flat [])=some Lm0:=Sp.foldB_all hf oM
  exact H.retM ⟨_,_,_,_,congrArg Value.bool (by rw[hyes];rfl),rfl,hm2_m0,hS2_m0,hV2_m0,fun l hl=>by rw[hyes]at hl;cases hl;rfl⟩
theorem i_back_c (w0:World)(G0:PH)(hG:PSub G0 w0)(db mb:Nat)(es:Array MapEntry)(ck:Nat)(xs:List (Int×Value))(T:Nd)(FT:Fr)(sv:Value)(sn:List (Bs×Nd))(c:List Value)(FSq:Fr)(d:BDisk)(hm:MapIs (Value.int .i64) es ck xs)(hS:StR G0 xs d.store)(hN:NdO 143 97 G0 T FT)(hT:Nd.TOK T d.tree)(hchk:Chk osE 2 G0 c sn)(hNs:NdsO 143 97 G0 (sn.map (·.2)) FSq)(hSn:SnOK sn d.snaps)(hdv:Sp.DiskValid d=true)(name:Bs)(hname:name.length≤16777216)(hLent:Lent w0 G0 [blk db (cl [.int .i32 0,.int .u32 0,.map (some mb),.pointer (some ⟨T.b,0,none⟩),sv] 111),blk mb (.map es ck),frag FT,acc 117 2 sv sn.length c,frag FSq]) :
  Calls Tryz.prog 31 #[.pointer (some ⟨db,0,none⟩),str name] w0 (RetM w0 G0 (fps [blk db (cl [.int .i32 0,.int .u32 0,.map (some mb),.pointer (some ⟨T.b,0,none⟩),sv] 111),blk mb (.map es ck),frag FT,acc 117 2 sv sn.length c,frag FSq]) (fun G' v Bs=>∃(es':Array MapEntry) (ck':Nat) (xs':List (Int×Value)) (F':Fr) (T':Nd) (sv':Value) (sn':List (Fw.Bs×Nd)) (c':List Value) (FSq':Fr) (L':List BHeld),v= .bool (Sp.SnapBack d name).isSome∧Bs=[blk db (cl [.int .i32 0,.int .u32 0,.map (some mb),.pointer (some ⟨T'.b,0,none⟩),sv'] 111),blk mb (.map es' ck'),frag F',acc 117 2 sv' sn'.length c',frag FSq']∧MapIs (Value.int .i64) es' ck' xs'∧StR G' xs' L'∧Sp.VH L'∧NdO 143 97 G' T' F'∧Chk osE 2 G' c' sn'∧NdsO 143 97 G' (sn'.map (·.2)) FSq'∧∀d',Sp.SnapBack d name=some d'→L'=d'.store∧Nd.TOK T' d'.tree∧SnOK sn' d'.snaps)):=by
 have H:Hp w0 G0 (fps [blk db (cl [.int .i32 0,.int .u32 0,.map (some mb),.pointer (some ⟨T.b,0,none⟩),sv] 111),blk mb (.map es ck),frag FT,acc 117 2 sv sn.length c,frag FSq]) w0 G0 [blk db (cl [.int .i32 0,.int .u32 0,.map (some mb),.pointer (some ⟨T.b,0,none⟩),sv] 111),blk mb (.map es ck),frag FT,acc 117 2 sv sn.length c,frag FSq]:=hLent.hp
 obtain⟨_,_,rfl⟩:=H.accShape (k:=3) rfl;have hVd:=Sp.valid_iff.1 (Sp.dv_parts.1 hdv).1;have hTv:=(Sp.dv_parts.1 hdv).2.1;have hTc:=hT.cnt;have hTl:=Sp.tree_len hTv;have hsnl:=hSn.len;have hsn6:=(Sp.dv_parts.1 hdv).2.2.1
 refine calls_of_WD (l:=[.pointer (some ⟨db,0,none⟩),str name]) func31 Z ntmps31 Z (q2 (aG Z (q1 (pe 2 Z (fA 0 Z (o_lock 0 H muLib Z call62 Z Z Z Z ?_))))));intro _ H
 refine q1 (pe 2 Z (fA 0 Z (o_defer Z (q1 (pe 2 Z (xr H Z2 (i_snapAt_c _ _ (H.lendSubL [0,3]) _ _ _ _ _ _ _ (prow_blk (H.lendPredL (k:=0) (ks:=[0,3]) Z Z)) (H.lendRdL (k:=3) (ks:=[0,3]) Z Z hchk aN aN) _ hname) ?_))))));intro _ H
 refine aG Z (q3 (W_seq (W_seq (W_drawK [0] 33 H kR Z ?_))));intro _ H;have hd3:=PLe.refl G0
 refine dE 0 Z2 (dE 1 Z2 (dE 2 Z2 ?_))
 refine RD_case (t:=18) Z ?_ ?_
 ·intro hc4
  try simp only[nrm]at hc4
  refine dE 3 Z2 (dE 4 Z2 (dE 5 Z2 (dE 6 Z2 (dE 7 Z2 (dE 8 Z2 (dE 9 Z2 (dE 10 Z2 (dE 11 Z2 (dE 12 Z2 (dE 13 Z2 (dE 14 Z2 (dE 15 Z2 (dE 16 Z2 (dE 17 Z2 (dE 18 Z2 ?_)))))))))))))))
  refine dE 19 Z2 (dE 20 Z2 (dE 21 Z2 (dE 22 Z2 (dE 23 Z2 (dE 24 Z2 (dE 25 Z2 (dE 26 Z2 (dE 27 Z2 (dE 28 Z2 (dE 29 Z2 (dE 30 Z2 (dE 31 Z2 (dE 32 Z2 (rz (N_K ?_)))))))))))))))
  refine W_true Z (q2 (aG Z (q3 (W_ret (N_K_ret (ret_unlock 0 H muLib Z call63 Z Z (rs:=[.tmp 4]) results31 ?_))))));intro _ H
  refine⟨[_],⟨Z,trivial⟩,?_⟩
  have H:=H.sel [0,1,2,3,4] rfl
  have hno:Sp.SnapBack d name=none:=Sp.back_noat (by (rw[←Sp.sn_find hSn];omega))
  exact H.retM ⟨_,_,_,_,T,_,sn,_,_,d.store,congrArg Value.bool (by (rw[hno];rfl)),rfl,hm,hS,hVd,hN,hchk,hNs,fun d2 h=>(by rw[hno]at h;cases h)⟩
 intro hc4'
 try simp only[nrm]at hc4'
 obtain⟨i,x,s0,hat,hsx,hs0,hai,htx,_⟩:=sn_at hSn (n:=name) oM
 refine dE 3 Z2 (dE 4 Z2 (dF 5 2 Z2 (dF 6 0 Z2 (dB 7 0 Z4 (dE 8 Z2 (dE 9 Z2 (dF 10 4 Z2 (dB 11 0 Z4 (dE 12 Z2 (r1 13 Z (gR Z (o_index_A 3 H i Z hchk underlying109 sizeOf117 Z Z Z hat aN aN ?_))))))))))));intro _ z5 _ hba5 hz5 hE5 hg5;cases hba5
 obtain⟨rfl,hi5⟩:=hE5;have hy_hi5:_≤16777216:=hi5
 refine q4 H hd3 (dF 14 1 Z2 (r1 15 Z (gR Z (o_load_A 3 H isAgg97 Z Z Z (hg5 1 _ Z) (q4 H hd3 (r1 16 Z (gR Z ?_)))))))
 have H:=H.tF 4
 obtain⟨_,_,hpm2,hNk2,hNr2⟩:=NdsO.del hNs (i:=i) (k:=z5.2) (by (rw[List.getElem?_map,hz5];rfl))
 have H:=(H.permF hpm2).splitF
 have H:=H.tF 3
 refine xc Z2 (i_keepTree_c _ _ H.sub _ _ _ _ _ hm hS hVd _ _ hNk2 H.lent2 (sn_ok hSn _ (List.mem_map_of_mem (List.mem_of_getElem? hz5))).1 (by have:=(sn_ok hSn _ (List.mem_map_of_mem (List.mem_of_getElem? hz5))).2;omega)) ?_
 rintro _ _ ⟨_,_,_,rfl,H6',⟨_,_,_,L6,rfl,rfl,hm6,hS6,hV6,hL6⟩⟩
 have hN:=hN.up H6'.le
 have hchk:=hchk.up H6'.le
 have hNs:=hNs.up H6'.le
 have hd3:=hd3.trans H6'.le
 have H:=H.borrow2 H6'
 refine⟨_,Z,?_⟩
 have H:=H.tF 2
 have H:=H.tF 2
 have H:=(H.mergeF).permF hpm2.symm
 refine q4 H hd3 (dE 17 Z2 (dE 18 Z2 (dE 19 Z2 ?_)))
 refine RD_case (t:=35) Z ?_ ?_
 ·intro hc7
  try simp only[nrm]at hc7
  refine dE 20 Z2 (dE 21 Z2 (dE 22 Z2 (dE 23 Z2 (dE 24 Z2 (dE 25 Z2 (dE 26 Z2 (dE 27 Z2 (dE 28 Z2 (dE 29 Z2 (dE 30 Z2 (dE 31 Z2 (dE 32 Z2 (rz (N_K (W_true Z ?_)))))))))))))))
  refine q2 (aG Z (q3 (W_ret (N_K_ret (ret_unlock 2 H muLib Z call63 Z Z (rs:=[.tmp 4]) results31 ?_)))));intro _ H
  refine⟨[_],⟨Z,trivial⟩,?_⟩
  obtain rfl:x=z5:=Option.some.inj (hsx.symm.trans hz5)
  have H:=H.sel [2,1,3,4,0] rfl
  have hno:Sp.SnapBack d name=none:=by (rw[Sp.back_eq hdv hai hs0,←htx.flat];(have hq:Sp.l12Keep d.store (x.2.flat [])=none:=by simpa using hc7);rw[hq];rfl)
  exact H.retM ⟨_,_,_,_,T,_,sn,_,_,L6,congrArg Value.bool (by (rw[hno];rfl)),rfl,hm6,hS6,hV6,hN,hchk,hNs,fun d2 h=>(by rw[hno]at h;cases h)⟩
 intro hc7'
 try simp only[nrm]at hc7'
 refine dE 20 Z2 (dE 21 Z2 (dF 22 2 Z2 (dF 23 0 Z2 (dB 24 0 Z4 (dE 25 Z2 (dE 26 Z2 (dF 27 2 Z2 (dF 28 1 Z2 (dB 29 0 Z4 (r1 30 Z (gR Z ?_)))))))))))
 have H:=H.tF 3
 have H:=H.tF 2
 refine xc Z2 (i_freeTree_c _ _ H.sub _ _ _ _ _ hm6 hS6 hV6 _ _ hN H.lent2 hT.wf oM) ?_
 rintro _ _ ⟨_,_,_,rfl,H8',⟨_,_,_,L8,rfl,rfl,hm8,hS8,hV8,hL8⟩⟩
 have hchk:=hchk.up H8'.le
 have hNs:=hNs.up H8'.le
 have hd3:=hd3.trans H8'.le
 have H:=H.borrow2 H8'
 refine⟨_,Z,?_⟩
 refine q4 H hd3 (dE 31 Z2 (dE 32 Z2 (rz (N_K ?_))))
 refine W_cond Z ?_ ?_
 ·intro hc9
  try simp only[nrm]at hc9
  refine q2 (aG Z (q3 (W_ret (N_K_ret (ret_unlock 3 H muLib Z call63 Z Z (rs:=[.tmp 4]) results31 ?_)))));intro _ H
  refine⟨[_],⟨Z,trivial⟩,?_⟩
  obtain rfl:x=z5:=Option.some.inj (hsx.symm.trans hz5)
  obtain⟨p,hp⟩:=Option.isSome_iff_exists.1 (show(Sp.l12Keep d.store (x.2.flat [])).isSome=true by simpa using hc7')
  have hLp:=hL6 p hp;subst hLp;(rw[htx.flat]at hp)
  have hfr:=Sp.back_free hdv hs0 hp
  exact absurd (show(Sp.freeTs L6 (T.flat [])).isSome=true by (rw[hT.flat,hfr];rfl)) (by simpa using hc9)
 intro hc9'
 try simp only[nrm]at hc9'
 refine W_skip (N_K (q2 (pe 3 Z (fA 4 Z (lB 3 H Z3 (mV Z (o_index_A 4 H i Z hchk underlying109 sizeOf117 Z Z Z hat aN aN ?_)))))));intro _ z10 _ hba10 hz10 hE10 hg10;cases hba10
 obtain⟨rfl,hi10⟩:=hE10;have hy_hi10:_≤16777216:=hi10
 have hzz10:z5=z10:=Option.some.inj (hz5.symm.trans hz10)
 subst hzz10
 refine fA 1 Z (o_load_A 4 H isAgg97 Z Z Z (hg10 1 _ Z) ?_)
 refine xc Z2 (i_clone_c _ _ (H.lendSubL [2]) _ (H.lendNs (k:=2) (ks:=[2]) Z Z hNs z5.2 (List.mem_map_of_mem (List.mem_of_getElem? hz5))) (by have:=(sn_ok hSn z5.2 (List.mem_map_of_mem (List.mem_of_getElem? hz5))).2;omega)) ?_
 rintro _ _ ⟨_,_,rfl,H11',⟨_,T11,rfl,rfl,hNC11,hst11⟩⟩
 have H:=H.readersL H11'
 refine⟨_,Z,?_⟩
 obtain⟨_,_,H,hsl5,hNc5⟩:=Hp.shareC H hNC11 (H.apart (k:=0) (ks:=[4,1,2,5,3]) rfl rfl (by intro b hb;simp only[fps,List.flatMap_cons,List.flatMap_nil,List.append_nil,List.mem_append]at hb;rcases hb with h|h|h|h|h;(· exact fpsAt_mem (k:=4) rfl rfl b (by exact h));(· exact fpsAt_mem (k:=1) rfl rfl b (by exact h));(· exact fpsAt_mem (k:=2) rfl rfl b (by exact h));(· exact fpsAt_mem (k:=5) rfl rfl b (by exact h));(· exact fpsAt_mem (k:=3) rfl rfl b (by exact h))))
 have hchk:=hchk.up hsl5
 have hNs:=hNs.up hsl5
 have hS8:=hS8.up hsl5
 refine pe 1 Z (fA 2 Z (fA 1 Z (xst 4 H Z8 ?_)));intro _ H
 refine q1 (aG Z (q3 (W_ret (ret_unlock 4 H muLib Z call63 Z Z (rs:=[.tmp 4]) results31 ?_))));intro _ H
 refine⟨[_],⟨Z,trivial⟩,?_⟩
 obtain rfl:x=z5:=Option.some.inj (hsx.symm.trans hz5)
 have H:=H.sel [4,1,0,5,3] rfl
 obtain⟨p,hp⟩:=Option.isSome_iff_exists.1 (show(Sp.l12Keep d.store (x.2.flat [])).isSome=true by simpa using hc7')
 have hLp:=hL6 p hp;subst hLp;(rw[htx.flat]at hp)
 have hfr:=Sp.back_free hdv hs0 hp
 have hyes:Sp.SnapBack d name=some ⟨Sp.l12Free L6 d.tree,s0.tree,d.snaps⟩:=by (rw[Sp.back_eq hdv hai hs0,hp];rfl)
 exact H.retM ⟨_,_,_,_,T11,_,sn,_,_,L8,congrArg Value.bool (by (rw[hyes];rfl)),rfl,hm8,hS8,hV8,hNc5,hchk,hNs,fun d2 h=>(by rw[hyes]at h;cases h;exact⟨hL8 _ (by (rw[hT.flat];exact hfr)),htx.strip hst11,hSn⟩)⟩
theorem i_SnapBack1_c (w0:World)(G0:PH)(hG:PSub G0 w0)(db mb:Nat)(es:Array MapEntry)(ck:Nat)(xs:List (Int×Value))(T:Nd)(FT:Fr)(sv:Value)(sn:List (Bs×Nd))(c:List Value)(FSq:Fr)(d:BDisk)(hm:MapIs (Value.int .i64) es ck xs)(hS:StR G0 xs d.store)(hN:NdO 143 97 G0 T FT)(hT:Nd.TOK T d.tree)(hchk:Chk osE 2 G0 c sn)(hNs:NdsO 143 97 G0 (sn.map (·.2)) FSq)(hSn:SnOK sn d.snaps)(hdv:Sp.DiskValid d=true)(cp:Nat)(name:Bs)(hname:name.length≤16777216)(hcp:PRow G0 cp 0 [str name])(hLent:Lent w0 G0 [blk db (cl [.int .i32 0,.int .u32 0,.map (some mb),.pointer (some ⟨T.b,0,none⟩),sv] 111),blk mb (.map es ck),frag FT,acc 117 2 sv sn.length c,frag FSq]) :
  Calls Tryz.prog 30 #[.pointer (some ⟨db,0,none⟩),.pointer (some ⟨cp,0,none⟩)] w0 (RetM w0 G0 (fps [blk db (cl [.int .i32 0,.int .u32 0,.map (some mb),.pointer (some ⟨T.b,0,none⟩),sv] 111),blk mb (.map es ck),frag FT,acc 117 2 sv sn.length c,frag FSq]) (fun G' v Bs=>∃(es':Array MapEntry) (ck':Nat) (xs':List (Int×Value)) (F':Fr) (T':Nd) (sv':Value) (sn':List (Fw.Bs×Nd)) (c':List Value) (FSq':Fr) (L':List BHeld),v= .bool (Sp.SnapBack d name).isSome∧Bs=[blk db (cl [.int .i32 0,.int .u32 0,.map (some mb),.pointer (some ⟨T'.b,0,none⟩),sv'] 111),blk mb (.map es' ck'),frag F',acc 117 2 sv' sn'.length c',frag FSq']∧MapIs (Value.int .i64) es' ck' xs'∧StR G' xs' L'∧Sp.VH L'∧NdO 143 97 G' T' F'∧Chk osE 2 G' c' sn'∧NdsO 143 97 G' (sn'.map (·.2)) FSq'∧∀d',Sp.SnapBack d name=some d'→L'=d'.store∧Nd.TOK T' d'.tree∧SnOK sn' d'.snaps)):=by
 have H:Hp w0 G0 (fps [blk db (cl [.int .i32 0,.int .u32 0,.map (some mb),.pointer (some ⟨T.b,0,none⟩),sv] 111),blk mb (.map es ck),frag FT,acc 117 2 sv sn.length c,frag FSq]) w0 G0 [blk db (cl [.int .i32 0,.int .u32 0,.map (some mb),.pointer (some ⟨T.b,0,none⟩),sv] 111),blk mb (.map es ck),frag FT,acc 117 2 sv sn.length c,frag FSq]:=hLent.hp
 obtain⟨_,_,rfl⟩:=H.accShape (k:=3) rfl;have hVd:=Sp.valid_iff.1 (Sp.dv_parts.1 hdv).1;have hTv:=(Sp.dv_parts.1 hdv).2.1;have hTc:=hT.cnt;have hTl:=Sp.tree_len hTv;have hsnl:=hSn.len;have hsn6:=(Sp.dv_parts.1 hdv).2.2.1
 refine calls_of_W (l:=[.pointer (some ⟨db,0,none⟩),.pointer (some ⟨cp,0,none⟩)]) func30 Z ntmps30 Z (q2 (aG Z (q1 (mV Z (lP H hcp 0 Z2 ?_)))))
 have H:=H.tF 4
 have H:=H.tF 4
 have H:=H.tF 4
 have H:=H.tF 4
 have H:=H.tF 4
 refine xc Z2 (i_back_c _ _ H.sub _ _ _ _ _ _ _ _ _ _ _ _ hm hS hN hT hchk hNs hSn hdv _ hname H.lent5) ?_
 rintro _ _ ⟨_,_,_,rfl,H1',⟨_,_,_,_,_,_,_,_,_,_,rfl,rfl,hm1,hS1,hV1,hN1,hchk1,hNs1,hd1⟩⟩
 have H:=H.borrow5 H1'
 obtain⟨_,_,rfl⟩:=H.accShape (k:=3) rfl
 refine⟨_,Z,?_⟩
 refine aG Z (q3 (W_ret (rt1 results30 Z ?_)))
 have H:=H.sel [0,1,2,3,4] rfl
 exact H.retM ⟨_,_,_,_,_,_,_,_,_,_,Z,Z,hm1,hS1,hV1,hN1,hchk1,hNs1,hd1⟩
theorem i_changed_back_c (w0:World)(G0:PH)(hG:PSub G0 w0)(cd:List Value)(d:BDisk)(hd:diskE G0 d cd)(cp:Nat)(name:Bs)(hname:name.length≤16777216)(hcp:PRow G0 cp 0 [str name]) :
  Calls Tryz.prog 29 #[.agg cd.toArray,.func (.func 30) #[] #[.pointer (some ⟨cp,0,none⟩)]] w0 (RetN w0 G0 (fun v Bs=>∃(v1 v2 v3:Value) (F1 F2 F3:Fr),v= .tuple #[.agg #[v1,v2,v3],.bool (Sp.SnapBack d name).isSome]∧Bs=[frag F1,frag F2,frag F3]∧OHs F1 v1 ((Sp.SnapBack d name).getD ⟨[],[],[]⟩).store∧OIs F2 v2 ((Sp.SnapBack d name).getD ⟨[],[],[]⟩).tree∧OSn F3 v3 ((Sp.SnapBack d name).getD ⟨[],[],[]⟩).snaps)):=by
 obtain⟨_,_,_,_,_,_,_,_,_,rfl,hr1,hr1',hr1'',⟨_,_⟩,⟨_,_⟩,_,_⟩:=ox hd
 have H:=Hp.init hG
 refine calls_of_W (l:=[_,.func (.func 30) #[] #[.pointer (some ⟨cp,0,none⟩)]]) func29 Z ntmps29 Z (q2 (o_box H Z Z Z ?_));intro _ _ _ H
 refine xal H Z ?_;intro _ _ _ H
 refine aG Z (q1 (lA 1 3 H Z4 (xc Z2 (i_newDisk_c _ _ H.sub _ d ⟨_,_,_,_,_,_,_,_,_,Z,hr1,hr1',hr1''⟩ H.lent0) ?_)))
 rintro _ _ ⟨_,_,_,rfl,H4',⟨rfl,rfl,hnd4⟩|⟨_,_,_,_,_,_,_,_,_,_,_,rfl,rfl,hm4,hS4,hN4,hT4,hchk4,hNs4,hSn4,hdv4⟩⟩
 ·skip
  have H:=H.borrow0 H4'
  refine⟨_,Z,?_⟩
  refine pe 5 Z (q3 (W_seq (q2 (pe 8 Z (q3 (W_true Z (q2 (o_build bf27 Z Z Z (xst 0 H Z8 ?_)))))))));intro _ H
  refine aG Z (q3 (W_ret (N_K_ret (ret_gen (rs:=[.cell 4 27,.tmp 5]) (vs:=[_,_]) results29 ⟨⟨_,Z,load_blk 0 H isAgg27 sizeOf27 Z Z Z⟩,Z,trivial⟩ ?_))))
  have H:=H.dl 0
  have H:=H.dl 0
  have hno:Sp.SnapBack d name=none:=by (cases hh:Sp.SnapBack d name with |none=>rfl|some q=>(have hx:=Sp.back_isv hh;rw[hnd4]at hx;cases hx))
  have H:=(((H.addF).addF).addF).forget hG (by simp)
  refine⟨_,_,Z,H,.slice none 0 0,.slice none 0 0,.slice none 0 0,[],[],[],?_,Z,?_,?_,?_⟩
  ·(rw[hno];rfl)
  ·(rw[hno];exact oh_nil)
  ·(rw[hno];exact oi_nil)
  (rw[hno];exact os_nil)
 skip
 have hcp:=hcp.up H4'.le
 have H:=H.borrow0 H4'
 obtain⟨avAd,cvAd,rfl⟩:=H.accShape (k:=3) rfl
 refine⟨_,Z,?_⟩
 refine pe 5 Z (q3 (W_seq (q2 (pe 5 Z (gR Z ?_)))))
 have H:=H.tF 4
 have H:=H.tF 4
 have H:=H.tF 4
 have H:=H.tF 4
 have H:=H.tF 4
 refine o_callc call30 Z Z Z (i_SnapBack1_c _ _ H.sub _ _ _ _ _ _ _ _ _ _ _ _ hm4 hS4 hN4 hT4 hchk4 hNs4 hSn4 hdv4 _ _ hname hcp H.lent5) ?_
 rintro _ _ ⟨_,_,_,rfl,H6',⟨_,_,_,_,_,_,_,_,_,_,rfl,rfl,hm6,hS6,hV6,hN6,hchk6,hNs6,hd6⟩⟩
 have H:=H.borrow5 H6'
 obtain⟨avAd,cvAd,rfl⟩:=H.accShape (k:=3) rfl
 refine⟨_,Z,?_⟩
 refine pe 2 Z (q3 ?_)
 refine W_cond Z ?_ ?_
 ·intro hc7
  try simp only[nrm]at hc7
  refine q2 (o_build bf27 Z Z Z (xst 5 H Z8 ?_));intro _ H
  refine aG Z (q3 (W_ret (N_K_ret (ret_gen (rs:=[.cell 4 27,.tmp 5]) (vs:=[_,_]) results29 ⟨⟨_,Z,load_blk 5 H isAgg27 sizeOf27 Z Z Z⟩,Z,trivial⟩ ?_))))
  have H:=H.sel [] rfl
  have hno:Sp.SnapBack d name=none:=by simpa using hc7
  have H:=(((H.addF).addF).addF).forget hG (by simp)
  refine⟨_,_,Z,H,.slice none 0 0,.slice none 0 0,.slice none 0 0,[],[],[],?_,Z,?_,?_,?_⟩
  ·(rw[hno];rfl)
  ·(rw[hno];exact oh_nil)
  ·(rw[hno];exact oi_nil)
  (rw[hno];exact os_nil)
 intro hc7'
 try simp only[nrm]at hc7'
 obtain⟨d2,hd2⟩:=Option.isSome_iff_exists.1 (show(Sp.SnapBack d name).isSome=true by simpa using hc7')
 obtain⟨hL2,hT2,hsn2⟩:=hd6 d2 hd2;subst hL2
 refine W_skip (N_K (q2 (mV Z ?_)))
 have H:=H.tF 4
 have H:=H.tF 4
 have H:=H.tF 4
 have H:=H.tF 4
 have H:=H.tF 4
 refine xc Z2 (i_disk_c _ _ H.sub _ _ _ _ _ _ _ _ _ _ _ _ hm6 hS6 hN6 hT2 hchk6 hNs6 hsn2 hV6 (Sp.dv_parts.1 (Sp.back_valid hd2)).2.2.1 H.lent5) ?_
 rintro _ _ ⟨_,_,_,rfl,H9',⟨_,_,_,D19,D29,D39,rfl,rfl,ho19,ho29,ho39⟩⟩
 have H:=H.borrow5 H9'
 obtain⟨_,p19⟩:=ho19
 obtain⟨a19,c19,rfl⟩:=OwnS.shape p19
 obtain⟨_,p29⟩:=ho29
 obtain⟨a29,c29,rfl⟩:=OwnS.shape p29
 obtain⟨_,p39⟩:=ho39
 obtain⟨a39,c39,rfl⟩:=OwnS.shape p39
 refine⟨_,Z,?_⟩
 refine xst 3 H Z8 ?_;intro _ H
 refine aG Z (q3 (W_ret (ret_gen (rs:=[.cell 4 27,.tmp 5]) (vs:=[_,_]) results29 ⟨⟨_,Z,load_blk 3 H isAgg27 sizeOf27 Z Z Z⟩,Z,trivial⟩ ?_)))
 have H:=H.sel [0,1,2] rfl
 have H:=H.forget hG (by simp)
 refine⟨_,_,Z,H,.slice a19 d2.store.length c19,.slice a29 d2.tree.length c29,.slice a39 d2.snaps.length c39,D19,D29,D39,?_,Z,?_,?_,?_⟩
 ·(rw[hd2];rfl)
 ·(rw[hd2];exact⟨_,p19⟩)
 ·(rw[hd2];exact⟨_,p29⟩)
 (rw[hd2];exact⟨_,p39⟩)
theorem i_SnapBack_c (w0:World)(G0:PH)(hG:PSub G0 w0)(cd:List Value)(d:BDisk)(hd:diskE G0 d cd)(name:Bs)(hname:name.length≤16777216) :
  Calls Tryz.prog 10 #[.agg cd.toArray,str name] w0 (RetN w0 G0 (fun v Bs=>∃(v1 v2 v3:Value) (F1 F2 F3:Fr),v= .tuple #[.agg #[v1,v2,v3],.bool (Sp.SnapBack d name).isSome]∧Bs=[frag F1,frag F2,frag F3]∧OHs F1 v1 ((Sp.SnapBack d name).getD ⟨[],[],[]⟩).store∧OIs F2 v2 ((Sp.SnapBack d name).getD ⟨[],[],[]⟩).tree∧OSn F3 v3 ((Sp.SnapBack d name).getD ⟨[],[],[]⟩).snaps)):=by
 obtain⟨_,_,_,_,_,_,_,_,_,rfl,hr1,hr1',hr1'',⟨_,_⟩,⟨_,_⟩,_,_⟩:=ox hd
 have H:=Hp.init hG
 refine calls_of_W (l:=[_,str name]) func10 Z ntmps10 Z (q2 (o_box H Z Z Z ?_));intro _ _ _ H
 refine o_box H Z Z Z ?_;intro _ _ _ H
 refine xal H Z ?_;intro _ _ _ H
 refine aG Z (q1 (lA 2 3 H Z4 (o_makefn1 Z Z (xc Z2 (i_changed_back_c _ _ (H.lendSubL [1]) _ d ⟨_,_,_,_,_,_,_,_,_,Z,(hr1.up (PPlus.le _ _ _)),(hr1'.up (PPlus.le _ _ _)),(hr1''.up (PPlus.le _ _ _))⟩ _ _ hname (prow_blk (H.lendPredL (k:=1) (ks:=[1]) Z Z))) ?_))))
 rintro _ _ ⟨_,_,rfl,H5',⟨_,_,_,E15,E25,E35,rfl,rfl,ho15,ho25,ho35⟩⟩
 have H:=H.readersL H5'
 obtain⟨_,p15⟩:=ho15
 obtain⟨a15,c15,rfl⟩:=OwnS.shape p15
 obtain⟨_,p25⟩:=ho25
 obtain⟨a25,c25,rfl⟩:=OwnS.shape p25
 obtain⟨_,p35⟩:=ho35
 obtain⟨a35,c35,rfl⟩:=OwnS.shape p35
 refine⟨_,Z,?_⟩
 refine pe 2 Z (xst 3 H Z8 ?_);intro _ H
 refine aG Z (q3 (W_ret (ret_gen (rs:=[.cell 4 27,.tmp 5]) (vs:=[_,_]) results10 ⟨⟨_,Z,load_blk 3 H isAgg27 sizeOf27 Z Z Z⟩,Z,trivial⟩ ?_)))
 have H:=H.sel [0,1,2] rfl
 exact⟨_,_,Z,H,.slice a15 ((Sp.SnapBack d name).getD ⟨[],[],[]⟩).store.length c15,.slice a25 ((Sp.SnapBack d name).getD ⟨[],[],[]⟩).tree.length c25,.slice a35 ((Sp.SnapBack d name).getD ⟨[],[],[]⟩).snaps.length c35,E15,E25,E35,Z,Z,⟨_,p15⟩,⟨_,p25⟩,⟨_,p35⟩⟩
theorem i_DiskValid_c (w0:World)(G0:PH)(hG:PSub G0 w0)(cd:List Value)(d:BDisk)(hd:diskE G0 d cd) :
  Calls Tryz.prog 14 #[.agg cd.toArray] w0 (Rets w0 (.bool (Sp.DiskValid d))):=by
 obtain⟨_,_,_,_,_,_,_,_,_,rfl,hr1,hr1',hr1'',⟨_,_⟩,⟨_,_⟩,_,_⟩:=ox hd
 have H:=Hp.init hG
 refine calls_of_W (l:=[_]) func14 Z ntmps14 Z (q2 (o_box H Z Z Z ?_));intro _ _ _ H
 refine aG Z (q1 (lA 0 3 H Z4 (xc Z2 (i_newDisk_c _ _ H.sub _ d ⟨_,_,_,_,_,_,_,_,_,Z,hr1,hr1',hr1''⟩ H.lent0) ?_)))
 rintro _ _ ⟨_,_,_,rfl,H3',⟨rfl,rfl,_⟩|⟨_,_,_,_,_,_,_,_,_,_,_,rfl,rfl,_,_,_,_,_,_,_,_⟩⟩
 ·skip
  have H:=H.borrow0 H3'
  refine⟨_,Z,?_⟩
  refine pe 5 Z (q1 (pe 2 Z (q3 (W_ret (rt1 results14 Z ?_)))))
  exact H.rets (congrArg Value.bool (by first|(rw[show Sp.DiskValid d=false by assumption])|(rw[show Sp.DiskValid d=true by assumption])))
 skip
 have H:=H.borrow0 H3'
 obtain⟨_,_,rfl⟩:=H.accShape (k:=3) rfl
 refine⟨_,Z,?_⟩
 refine pe 5 Z (q1 (pe 2 Z (q3 (W_ret (rt1 results14 Z ?_)))))
 exact H.rets (congrArg Value.bool (by first|(rw[show Sp.DiskValid d=false by assumption])|(rw[show Sp.DiskValid d=true by assumption])))
theorem i_spart_c (w0:World)(G0:PH)(hG:PSub G0 w0)(cpart:List Value)(part:BPart)(hpart:partE G0 part cpart) :
  Calls Tryz.prog 32 #[.agg cpart.toArray] w0 (Rets w0 (.bool (Sp.partOk part))):=by
 obtain⟨_,_,_,rfl,_,hi1,hr1⟩:=hpart;have hy_hi1:_≤16777216:=hi1;have hn_hr1:=hr1.len;have hx_hr1:_≤1099511627776:=hr1.lim
 have H:=Hp.init hG
 refine calls_of_W (l:=[_]) func32 Z ntmps32 Z (q2 (o_box H Z Z Z ?_));intro _ _ _ H
 refine aG Z (q3 (W_seq (q2 (fA 0 Z (lB 0 H Z3 (q3 (W_block (q2 (pe 2 Z (q3 ?_))))))))))
 refine W_cond Z ?_ ?_
 ·intro hc3
  try simp only[nrm]at hc3
  refine q2 (fA 2 Z (lB 0 H Z3 (pe 2 Z ?_)))
  refine R_case (t:=10) Z ?_ ?_
  ·intro hc4
   try simp only[nrm]at hc4
   refine pe 6 Z (q3 (W_ret (N_B_ret (N_K_ret (rt1 results32 Z ?_)))))
   exact H.rets (congrArg Value.bool (by simp_all [Sp.partOk,List.length_eq_zero_iff]))
  intro hc4'
  try simp only[nrm]at hc4'
  refine gR Z (fA 3 Z (gR Z (lB 0 H Z3 (gR Z (lN Z (pe 3 Z (q3 (W_ret (N_B_ret (N_K_ret (rt1 results32 Z ?_)))))))))))
  exact H.rets (congrArg Value.bool (by simp_all [Sp.partOk,List.length_eq_zero_iff]))
 intro hc3'
 try simp only[nrm]at hc3'
 refine q2 (pe 2 Z (q3 ?_))
 refine W_cond Z ?_ ?_
 ·intro hc5
  try simp only[nrm]at hc5
  refine q2 (fA 3 Z (lB 0 H Z3 (lN Z (pe 2 Z (q3 (W_ret (N_B_ret (N_K_ret (rt1 results32 Z ?_)))))))))
  exact H.rets (congrArg Value.bool (by simp_all [Sp.partOk,List.length_eq_zero_iff]))
 intro hc5'
 try simp only[nrm]at hc5'
 refine q2 (pe 2 Z (q3 ?_))
 refine W_cond Z ?_ ?_
 ·intro hc6
  try simp only[nrm]at hc6
  refine q2 (fA 2 Z (lB 0 H Z3 (pe 2 Z (q3 (W_ret (N_B_ret (N_K_ret (rt1 results32 Z ?_))))))))
  exact H.rets (congrArg Value.bool (by simp_all [Sp.partOk,List.length_eq_zero_iff]))
 intro hc6'
 try simp only[nrm]at hc6'
 refine W_skip (N_B (N_K (q2 (aG Z (q3 (W_ret (rt1 results32 Z ?_)))))))
 exact H.rets (congrArg Value.bool (by simp_all [Sp.partOk,List.length_eq_zero_iff]))
theorem i_next_c (w0:World)(G0:PH)(hG:PSub G0 w0)(rb:Nat)(ab:Option Addr)(kb:Nat)(bs:List Int)(p:Nat)(hbs:RdI G0 (.slice ab bs.length kb) bs)(hp:p≤bs.length)(hbl:bs.length≤1000000)(hLent:Lent w0 G0 [blk rb (cl [.slice ab bs.length kb,.int .i64 (p:Int)] 220)]) :
  Calls Tryz.prog 169 #[.pointer (some ⟨rb,0,none⟩)] w0 (RetM w0 G0 [rb] (fun G' v Bs=>∃(u:Value) (c:List Value) (p':Nat),v=u∧Bs=[acc 3 1 u (Sp.nextC bs p).length c,blk rb (cl [.slice ab bs.length kb,.int .i64 (p':Int)] 220)]∧p'=min (p+8) bs.length∧Chk intE 1 G' c (Sp.nextC bs p))):=by
 have H:Hp w0 G0 [rb] w0 G0 [blk rb (cl [.slice ab bs.length kb,.int .i64 (p:Int)] 220)]:=hLent.hp
 refine calls_of_W (l:=[.pointer (some ⟨rb,0,none⟩)]) func169 Z ntmps169 Z (q2 (aG Z (q3 (W_seq (W_drawK [0] 12 H kR Z ?_)))));intro _ H;have hd1:=PLe.refl G0
 refine dE 0 Z2 (dE 1 Z2 (dF 2 1 Z2 (dB 3 0 Z4 (RD_t 4 Z kR Z (fun _ hK=>v_add Z Z oO) (dE 5 Z2 (dE 6 Z2 (dF 7 0 Z2 (dB 8 0 Z4 (dN 9 Z2 (RD_t 10 Z kR Z (fun _ hK=>v_min Z Z) (dE 11 Z2 (rz (N_K (W_seq (W_drawK [0] 12 H kR Z ?_)))))))))))))));intro _ H;have hd3:=PLe.refl G0
 refine dE 0 Z2 (dE 1 Z2 (dF 2 0 Z2 (dB 3 0 Z4 (dE 4 Z2 (dE 5 Z2 (dF 6 1 Z2 (dB 7 0 Z4 (dE 8 Z2 ?_))))))))
 have hcap4:=hbs.cap;try simp only[List.length_set,List.length_append,List.length_take,List.length_drop,List.length_replicate]at hcap4
 have hsl4:=hbs.part (i:=p) (j:=(min (p+8) bs.length)) oM oM
 have hsn1:=hsl4.len
 refine RD_t 9 Z kR Z (fun _ hK=>v_slice (i:=p) (j:=(min (p+8) bs.length)) underlying56 sizeOf3 Z Z Z oM oM aN aN) (r1 10 Z ?_)
 have H:=H.addNil 3 1
 refine o_append_P 0 H hsl4 (by intro _ _ hz _ hu;obtain⟨rfl,_⟩:=hz;simp at hu;subst hu;rfl) (sz:=1) (bytes:=8) underlying56 typeInfo3 ⟨_,rfl,rfl⟩ rfl rfl rfl rfl rfl rfl rfl oM rfl ?_;intro _ _ css5 hcl5 hcs5 H
 have hchk5:Chk intE 1 G0 ([]++css5.flatten) _:=⟨css5,rfl,hcl5,hcs5⟩
 obtain⟨_,_,rfl⟩:=H.accShape (k:=0) rfl
 refine q4 H hd3 (dE 11 Z2 (rz (N_K (q2 (pe 3 Z (fA 1 Z (xst 1 H Z8 ?_)))))));intro _ H
 refine q1 (pe 2 Z (q3 (W_ret (rt1 results169 Z ?_))))
 have hcx:(Sp.nextC bs p).length=min (p+8) bs.length-p:=by unfold Sp.nextC;simp;omega
 have hpm:min ((p:Int)+8) (bs.length:Int)=((min (p+8) bs.length:Nat):Int):=by omega
 exact H.retM ⟨_,_,min (p+8) bs.length,rfl,by rw[hcx,hpm];simp only[Nat.zero_add];rfl,rfl,hchk5⟩
theorem i_storeFile_c (w0:World)(G0:PH)(hG:PSub G0 w0)(mbs:Nat)(ess:Array MapEntry)(cks:Nat)(xss:List (Int×Value))(Ls:List BHeld)(hms:MapIs (Value.int .i64) ess cks xss)(hSs:StR G0 xss Ls)(hVs:Sp.VH Ls)(vbytes:Value)(bytes:List (Int))(hbytes:RdI G0 vbytes bytes)(hLent:Lent w0 G0 [blk mbs (.map ess cks)])(hB:Sp.FileValid bytes=true) :
  Calls Tryz.prog 138 #[.map (some mbs),vbytes] w0 (RetM w0 G0 [mbs] (fun G' v Bs=>∃(es':Array MapEntry) (ck':Nat) (xs':List (Int×Value)) (L':List BHeld) (u:Value) (c:List Value) (ids:List Int),v= .tuple #[u,.bool (Sp.FileStore Ls bytes).isSome]∧Bs=[acc 3 1 u ids.length c,blk mbs (.map es' ck')]∧MapIs (Value.int .i64) es' ck' xs'∧StR G' xs' L'∧Sp.VH L'∧(∀r,Sp.FileStore Ls bytes=some r→r=(L',ids))∧Chk intE 1 G' c ids∧ids.length≤1000)):=by
 obtain⟨abytes,kbytes,rfl⟩:=hbytes.shape
 have hlimbytes:bytes.length≤1099511627776:=hbytes.lim
 have hBl:bytes.length≤32:=by simp[Sp.FileValid]at hB;omega
 have H:Hp w0 G0 [mbs] w0 G0 [blk mbs (.map ess cks)]:=hLent.hp
 refine calls_of_W (l:=[.map (some mbs),.slice abytes bytes.length kbytes]) func138 Z ntmps138 Z (q2 (pe 2 Z (q1 (aG Z (q1 (mV Z (o_build bf220 Z Z Z (o_box H Z Z Z ?_))))))));intro b1 _ _ H
 refine aG Z (q3 (W_seq (q2 (mV Z (xc Z2 (i_next_c _ _ H.sub _ _ _ _ 0 hbytes oM oM H.lent1) ?_)))))
 rintro _ _ ⟨G2,_,_,rfl,H2',⟨_,_,_,rfl,rfl,_,hchk2⟩⟩
 have hSs:=hSs.up H2'.le
 have hbytes:=hbytes.up H2'.le
 have H:=H.borrow1 H2'
 obtain⟨_,_,rfl⟩:=H.accShape (k:=0) rfl
 refine⟨_,Z,?_⟩
 refine aG Z (q3 (W_block ?_))
 have H:=H.addNil 3 1
 refine W_lp (hf:=(Sub.cons (t:=0) Z (Sub.cons (t:=7) Z Sub.nil))) (J:=fun M w m=>∃(esm0:Array MapEntry) (ckm0:Nat) (xsm0:List (Int×Value)) (Lm0:List BHeld) (v:Value) (n:Nat) (cs:List Value) (xs:List (Int)) (v1:Value) (n1:Nat) (cs1:List Value) (xs1:List (Int)) (k p:Nat) (G:PH),M=[(6,v),(8,v1)]∧PLe G2 G∧Hp w0 G0 [mbs] w G [acc 3 1 v n cs,acc 3 1 v1 n1 cs1,blk b1 (cl [.slice abytes bytes.length kbytes,.int .i64 (p:Int)] 220),blk mbs (.map esm0 ckm0)]∧(MapIs (Value.int .i64) esm0 ckm0 xsm0∧StR G xsm0 Lm0∧Sp.VH Lm0∧Chk intE 1 G cs xs∧n=xs.length∧Chk intE 1 G cs1 xs1∧n1=xs1.length∧xs1=Sp.chunk bytes k∧p=min (8*k+8) bytes.length∧xs.length≤k∧k≤100∧Sp.foldB Sp.put1 ((Sp.l4Cut bytes).take k) (some (Ls,[]))=some (Lm0,xs))∧m=(100-k)) (h0:=⟨_,_,xss,Ls,_,_,_,[],_,_,_,(Sp.nextC bytes 0),0,_,_,Z,PLe.refl _,H,?inv,Z⟩) (round:=?round)
 case inv=>exact⟨hms,hSs,hVs,(by exact⟨(Chk.nil (E:=intE) (sz:=1) (G:=G2)),(by first|rfl|simp|(simp;omega)|omega),hchk2,by first|rfl|simp|(simp;omega)|omega,(by exact⟨Sp.next_zero _,by omega,by simp,by omega,by simp[Sp.foldB]⟩)⟩)⟩
 case round =>
  rintro _ _ _ ⟨esm0,ckm0,xsm0,Lm0,v,n,cs,xs,v1,n1,cs1,xs1,k,p,_,rfl,hle4,H,hinv4,rfl⟩
  have hbytes:=hbytes.up hle4
  obtain⟨hm4_m0,hS4_m0,hV4_m0,hinv4⟩:=hinv4
  obtain⟨hchk4_0,_,hinv4⟩:=hinv4
  obtain⟨_,_,rfl⟩:=H.accShape (k:=0) rfl
  obtain⟨hchk4_1,_,hinv4⟩:=hinv4
  obtain⟨_,_,rfl⟩:=H.accShape (k:=1) rfl
  obtain⟨rfl,hpk,_,_,hf⟩:=hinv4;have hcl:=Sp.chunk_len bytes k
  refine W_seq (q2 (mV Z (lN Z (pe 1 Z (q3 ?_)))))
  refine W_cond Z ?_ ?_
  ·intro hc5
   try simp only[nrm]at hc5
   refine W_skip (N_K (W_seq (W_block (q2 (pe 2 Z ?_)))))
   obtain⟨_,H,hsg7,hsr7⟩:=H.shutL (k:=1) rfl (H.apart (k:=1) (ks:=[3]) rfl rfl (by intro b hb;simpa [fpsAt,nth,blk] using hb)) hchk4_1 aN aN
   have hbytes:=hbytes.up hsg7
   have hS4_m0:=hS4_m0.up hsg7
   have hchk4_0:=hchk4_0.up hsg7
   have hle4:=hle4.trans hsg7
   have H:=H.tF 2
   refine xc Z2 (i_put_c _ _ H.sub _ _ _ _ _ hm4_m0 hS4_m0 hV4_m0 _ _ hsr7 H.lent1 (Sp.chunk_valid hB oM)) ?_
   rintro _ _ ⟨G6,_,_,rfl,H6',⟨_,_,xs6,L6,i6,rfl,rfl,hm6,hS6,hV6,hL6,_,hir6⟩⟩
   have hbytes:=hbytes.up H6'.le
   have hchk4_0:=hchk4_0.up H6'.le
   have hle4:=hle4.trans H6'.le
   have H:=H.borrow1 H6'
   refine⟨_,Z,?_⟩
   refine pe 5 Z (q3 (W_seq (q2 (pe 2 Z (q3 ?_)))))
   refine W_cond Z ?_ ?_
   ·intro hc8
    try simp only[nrm]at hc8
    refine q2 (pe 2 Z (q3 (W_ret (N_K_ret (N_B_ret (N_K_ret (N_LP_ret (N_B_ret (N_K_ret (rt2 results138 Z Z ?_))))))))))
    have hno:Sp.FileStore Ls bytes=none:=by (have hno:Sp.StorePut Lm0 (Sp.chunk bytes k)=none:=by simpa using hc8);simp only[Sp.FileStore,Sp.valid_iff.2 hVs,hB,Bool.and_self,if_true];exact Sp.foldB_stop hf (Sp.chunks_at oM) (by simp[Sp.put1,hno])
    have H:=H.addNil 3 1
    have H:=H.dl 2
    have H:=H.dl 2
    have H:=H.tF 1
    have H:=H.tF 1
    exact H.retM ⟨_,_,_,_,_,_,_,congrArg (fun b=>Value.tuple #[_,Value.bool b]) (show _=(Sp.FileStore Ls bytes).isSome by rw[hno];rfl),acc_1 aN,hm6,hS6,hV6,(fun r hr=>by rw[hno]at hr;cases hr),(Chk.nil (E:=intE) (sz:=1) (G:=G6)),by first|omega|(simp;done)|(simp;omega)⟩
   intro hc8'
   try simp only[nrm]at hc8'
   obtain⟨⟨r1,r2⟩,hsp⟩:=Option.isSome_iff_exists.1 hc8'
   have hLp:L6=r1:=by rw[hL6,hsp];rfl
   subst hLp
   obtain rfl:i6=r2:=(hir6 _ hsp).symm
   refine W_skip (N_K (W_region (pe 2 Z (xbs H Z7 ?_))));intro _ _ _ H
   refine o_append1 1 H (sz:=1) (bytes:=8) underlying56 typeInfo3 ⟨_,Z,Z⟩ Z Z Z Z Z Z Z Z Z Z oM Z ?_;intro _ _ H
   have hchk10:=hchk4_0.snoc (show intE _ i6 _ from⟨rfl,oO⟩) rfl
   obtain⟨_,_,rfl⟩:=H.accShape (k:=1) rfl
   refine aG Z (R_nil (N_B (N_K (W_region (mV Z ?_)))))
   have H:=H.tF 2
   refine xc Z2 (i_next_c _ _ H.sub _ _ _ _ p hbytes oM oM H.lent1) ?_
   rintro _ _ ⟨_,_,_,rfl,H11',⟨_,_,p11,rfl,rfl,_,hchk11⟩⟩
   have hS6:=hS6.up H11'.le
   have hchk10:=hchk10.up H11'.le
   have hle4:=hle4.trans H11'.le
   have H:=H.borrow1 H11'
   obtain⟨_,_,rfl⟩:=H.accShape (k:=0) rfl
   refine⟨_,Z,?_⟩
   refine aG Z (R_nil ?_)
   have H:=H.sel [3,0,1,2] rfl
   refine N_lp (hJ:=⟨_,_,xs6,L6,_,_,_,(xs++[i6]),_,_,_,(Sp.nextC bytes p),k+1,p11,_,Z,hle4,H,?inv,Z⟩) (hm:=?hm)
   case hm=>omega
   case inv=>exact⟨hm6,hS6,hV6,(by exact⟨hchk10,aN,hchk11,aN,(by exact⟨by rw[hpk];exact Sp.next_chunk _ _,by omega,by simp;omega,by omega,Sp.foldB_succ hf (Sp.chunks_at oM) (by simp[Sp.put1,hsp])⟩)⟩)⟩
  intro hc5'
  try simp only[nrm]at hc5'
  refine W_exit (N_K_exit (N_LP_exit (N_B_same (N_K (q2 (pe 3 Z (q3 (W_ret (rt2 results138 Z Z ?_)))))))))
  have hyes:Sp.FileStore Ls bytes=some (Lm0,xs):=by simp only[Sp.FileStore,Sp.valid_iff.2 hVs,hB,Bool.and_self,if_true];exact Sp.foldB_all hf (Sp.chunks_end oM)
  have H:=H.dl 1
  have H:=H.dl 1
  have H:=H.tF 1
  have H:=H.tF 1
  exact H.retM ⟨_,_,_,_,_,_,_,congrArg (fun b=>Value.tuple #[_,Value.bool b]) (show _=(Sp.FileStore Ls bytes).isSome by rw[hyes];rfl),acc_1 aN,hm4_m0,hS4_m0,hV4_m0,(fun r hr=>by rw[hyes]at hr;cases hr;rfl),hchk4_0,by first|omega|(simp;done)|(simp;omega)⟩
end Go.Proofs.Tst
