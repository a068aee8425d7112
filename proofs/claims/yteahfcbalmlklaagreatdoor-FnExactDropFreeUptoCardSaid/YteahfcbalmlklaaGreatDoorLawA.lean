/- Part 7 of the proof: contracts of functions of the program. Conditions: none. -/
import Derived.Test.YteahfcbalmlklaaGreatDoorCards
import Derived.Test.YteahfcbalmlklaaGreatDoorTie
import Derived.WalkKit
import Derived.ProofKit
import Derived.OpenShut
import Derived.ChangeMaps5
import Derived.Deep.DeepHandedRow
import Derived.Lib.LaidTab
import Derived.Test.YteahfcbalmlklaaGreatDoorG06
import Derived.Test.YteahfcbalmlklaaGreatDoorFacts
import Derived.Test.YteahfcbalmlklaaGreatDoorG04
import Derived.Test.YteahfcbalmlklaaGreatDoorG03
set_option linter.all false
set_option maxRecDepth 100000
set_option maxHeartbeats 8000000
namespace Go.Proofs.YteahfcbalmlklaaGreatDoor.fnExactDropFree
open Go Fw Go.ChangeShapes Go.ChangeMaps Go.WideShapes Go.ChangeAt Go.RowKit Go.Proofs.Tst
theorem own:ownKnob Tryz.prog.godebug=none:=by kernel_rfl
theorem bulk {H:Type}:Bulk (H:=H) Rows.uptoBulk Rows.uptoBulkAll where
 slice _ _:=by rw[Rows.uptoBulk]
 agg _:=by rw[Rows.uptoBulk]
 str _:=by rw[Rows.uptoBulk]
 nil:=by rw[Rows.uptoBulkAll]
 cons _ _:=by rw[Rows.uptoBulkAll]
 pos d:=by
  cases d with
  | lit l=>cases l<;>(unfold Rows.uptoBulk;omega)
  | _=>unfold Rows.uptoBulk;omega
section
variable {H:Type} {enc:TypeId×Value→H} {W:World}
theorem e94:Elem enc Tryz.prog W Rows.uptoBulk 94 3 heldE :=
 elem_held bulk Tryz.underlying94 (by kernel_rfl) (fun i f hf => by
  have hi:=(Array.getElem?_eq_some_iff.1 hf).1
  simp at hi
  (obtain rfl|rfl|rfl:i=0∨i=1∨i=2:=by omega)<;>(obtain rfl:=(Option.some.inj hf);exact⟨rfl,by kernel_rfl⟩)) rfl rfl rfl Tryz.underlying3 Tryz.underlying92 (by kernel_rfl)
theorem e97:Elem enc Tryz.prog W Rows.uptoBulk 97 3 itemE :=
 elem_item bulk Tryz.underlying97 (by kernel_rfl) (fun i f hf => by
  have hi:=(Array.getElem?_eq_some_iff.1 hf).1
  simp at hi
  (obtain rfl|rfl|rfl:i=0∨i=1∨i=2:=by omega)<;>(obtain rfl:=(Option.some.inj hf);exact⟨rfl,by kernel_rfl⟩)) rfl rfl rfl Tryz.underlying9 Tryz.underlying4 Tryz.underlying3 Tryz.underlying92 (by kernel_rfl)
theorem e100:Elem enc Tryz.prog W Rows.uptoBulk 100 2 snapE :=
 elem_snap bulk Tryz.underlying100 (by kernel_rfl) (fun i f hf => by
  have hi:=(Array.getElem?_eq_some_iff.1 hf).1
  simp at hi
  (obtain rfl|rfl:i=0∨i=1:=by omega)<;>(obtain rfl:=(Option.some.inj hf);exact⟨rfl,by kernel_rfl⟩)) rfl rfl Tryz.underlying9 Tryz.underlying23 (by kernel_rfl) e97
theorem e26:Elem enc Tryz.prog W Rows.uptoBulk 26 3 diskE :=
 elem_disk bulk Tryz.underlying26 (by kernel_rfl) (fun i f hf => by
  have hi:=(Array.getElem?_eq_some_iff.1 hf).1
  simp at hi
  (obtain rfl|rfl|rfl:i=0∨i=1∨i=2:=by omega)<;>(obtain rfl:=(Option.some.inj hf);exact⟨rfl,by kernel_rfl⟩)) rfl rfl rfl Tryz.underlying22 Tryz.underlying23 Tryz.underlying24 (by kernel_rfl) (by kernel_rfl) (by kernel_rfl) e94 e97 e100
theorem e60:Elem enc Tryz.prog W Rows.uptoBulk 60 2 holdE :=
 elem_hold bulk Tryz.underlying60 (by kernel_rfl) (fun i f hf => by
  have hi:=(Array.getElem?_eq_some_iff.1 hf).1
  simp at hi
  (obtain rfl|rfl:i=0∨i=1:=by omega)<;>(obtain rfl:=(Option.some.inj hf);exact⟨rfl,by kernel_rfl⟩)) rfl rfl Tryz.underlying9
end
set_option maxRecDepth 100000 in
theorem contract (H:Type)(enc:TypeId×Value→H)(W:World)(base:Nat)(args:Array Value)(ds gs:List (DataW H))(before:List MemPlace)
  (hval:∀(j:Nat) t v,Tryz.f3.params[j]? = some t→args[j]? = some v→Value.okWide Tryz.prog W .any base t v)
  (hW:DataW.Whole enc Tryz.prog Tryz.f3.params.toList Rows.fnExactDropFreeSpec.vars false W args.toList ds gs before) (hbd:Rows.uptoBulkAll (ds++gs)≤1048576) :
  Calls Tryz.prog 3 args W fun e W'=>∃v,e= .returned v∧Rows.fnExactDropFreeSpec.post enc Tryz.prog Tryz.f3 false true false false W args v W':=by
 have hW':=hW
 obtain⟨p,q,hA,hV,rfl,hfz,hnd⟩:=hW
 rw[Tryz.params3]at hA hval
 obtain⟨rfl,rfl⟩:=trodVars_none hV
 obtain⟨v0,vs0,d0,ds0,p0,q0,hargs,rfl,rfl,h0,r0⟩:=trodAll_cons hA
 obtain⟨v1,vs1,d1,ds1,p1,q1,rfl,rfl,rfl,h1,r1⟩:=trodAll_cons r0
 obtain⟨v2,vs2,d2,ds2,p2,q2,rfl,rfl,rfl,h2,r2⟩:=trodAll_cons r1
 obtain⟨rfl,rfl,rfl⟩:=trodAll_nil r2
 obtain rfl:args= #[v0,v1,v2]:=by cases args;simp_all
 simp only[List.append_nil,bulk.cons,bulk.nil]at hbd
 obtain⟨c0,rfl⟩:=agg_of Tryz.underlying26 (hval 0 26 v0 rfl rfl)
 obtain⟨f0,hf0⟩:=h0
 obtain⟨x0,_,hx0⟩:=e26 _ _ _ hf0 (by show Rows.uptoBulk d0≤_;omega)
 obtain⟨f1,hf1⟩:=h1
 obtain⟨u1,x1,hu1,hx1⟩:=elem_slice bulk Tryz.underlying27 (by kernel_rfl) (by omega) e60 _ _ _ hf1 (by show Rows.uptoBulk d1≤_;omega)
 obtain rfl:=slice_of Tryz.underlying27 (hval 1 27 v1 rfl rfl) hu1
 obtain⟨s2,rfl,rfl,rfl,_⟩:=open_string Tryz.underlying9 (hval 2 9 v2 rfl rfl) h2
 have hs2:s2.data.toList.length≤16777216:=by have h9:=bulk.str (H:=H) s2.data.toList;omega
 refine(show Calls Tryz.prog 3 #[_,_,_] W (Rets W (.bool true)) from xDropFree_c W (PAll W) (PAll.sub W) _ x0 hx0 _ x1 hx1 _ hs2).mono fun e W' ⟨he,hg⟩=>?_
 subst he
 exact⟨_,rfl,law_post (by kernel_rfl) (by rw[Tryz.params3];exact(by decide +kernel:∀t,t ∈ [26,27,9]→Tryz.prog.readableRec t=true∧t<Tryz.prog.types.size)) rfl hW' hg rfl rfl rfl (fun _ _ _=>trodAll_cons_mk (shut_bool Tryz.underlying4 _) trodAll_mk0) (ok_one (by kernel_rfl) rfl (okWide_bool_mk Tryz.underlying4 _))⟩
def flat:DataW Unit→List Value
 | .lit (.int k n)=>[.int k n]
 | .agg l=>flats l
 | _=>[]
where flats : List (DataW Unit) → List Value
 | []=>[]
 | d::r=>flat d++flats r
def put (c:Array Value):Obj→Obj
 | .cells _ t frozen=> .cells c t frozen
 | o=>o
noncomputable def laidWorld (os:Os):World :=
 {World.holding Tryz.prog os ⟨#[],#[],[]⟩ with heap:=(((World.holding Tryz.prog os ⟨#[],#[],[]⟩).heap).modify 2 (put (flat Rows.laid_unicode_utf8_acceptRanges).toArray)).modify 1 (put (flat Rows.laid_unicode_utf8_first).toArray)}
theorem laid_met (os : Os) : laidMet Tryz.prog Rows.fnExactDropFreeUptoRow.laid ((laidWorld os).forCall (fun _ _ => 0) ⟨#[], #[.agg #[.slice none 0 0, .slice none 0 0, .slice none 0 0], .slice none 0 0, .string ⟨#[]⟩], []⟩).memory :=
 laidMet_of_run' 8 (by kernel_rfl) (by kernel_rfl)
theorem reads (os : Os) {H : Type} (enc : TypeId × Value → H) : ∃ places, DataW.whole enc Tryz.prog ((laidWorld os).forCall (fun _ _ => 0) ⟨#[], #[.agg #[.slice none 0 0, .slice none 0 0, .slice none 0 0], .slice none 0 0, .string ⟨#[]⟩], []⟩).memory Tryz.f3.params.toList Rows.fnExactDropFreeSpec.vars false #[.agg #[.slice none 0 0, .slice none 0 0, .slice none 0 0], .slice none 0 0, .string ⟨#[]⟩].toList 8 = some ([.agg [.nil, .nil, .nil], .nil, .lit (.string [])], [], places) :=
 ⟨[],by kernel_rfl⟩
set_option maxRecDepth 100000 in
theorem liftedUpto (os:Os)(started:os.Started)(H:Type)(enc:TypeId×Value→H)(F:Stop.Interp) :
  ReturnsInHanded {} Tryz.checked os 3 .any ((Rows.OpenSpec.upto Rows.fnExactDropFreeSpec).preRow enc Tryz.prog Tryz.f3 Rows.fnExactDropFreeUptoRow.domain false Rows.fnExactDropFreeUptoRow.laid) (((Rows.OpenSpec.upto Rows.fnExactDropFreeSpec).at F).post enc Tryz.prog Tryz.f3 false true false false):=by
 obtain⟨places,hx⟩:=reads os enc
 refine returnsInHanded_of_row (C := Tryz.checked) (s := Rows.OpenSpec.upto Rows.fnExactDropFreeSpec) own started (by kernel_rfl) Tryz.func3
  (witness_row_at (enc := enc) (C := Tryz.checked) false (laidWorld os) #[.agg #[.slice none 0 0, .slice none 0 0, .slice none 0 0], .slice none 0 0, .string ⟨#[]⟩] rfl (by kernel_rfl) (by kernel_rfl) (by kernel_rfl)
   (OpenSpec.preRow_of_cond 8 hx (by kernel_rfl) (fun k hk=>by cases hk;kernel_rfl) (by kernel_rfl) (laid_met os))) ?_
 intro W base args ds gs before hval hW _ hcond _ hL _ _
 exact contract H enc W base args ds gs before hval hW (of_decide_eq_true (hcond _ rfl))
end Go.Proofs.YteahfcbalmlklaaGreatDoor.fnExactDropFree
