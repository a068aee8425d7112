/- Part 9 of the proof: contracts of functions of the program. Conditions: none. -/
import Derived.Test.YtmjchicclpbaeaaGreatDoorCards
import Derived.Test.YtmjchicclpbaeaaGreatDoorTie
import Derived.WalkKit
import Derived.ProofKit
import Derived.OpenShut
import Derived.ChangeMaps5
import Derived.Deep.DeepHandedRow
import Derived.Lib.LaidTab
import Derived.Test.YtmjchicclpbaeaaGreatDoorG08
import Derived.Test.YtmjchicclpbaeaaGreatDoorFacts
import Derived.Test.YtmjchicclpbaeaaGreatDoorG04
set_option linter.all false
set_option maxRecDepth 100000
set_option maxHeartbeats 8000000
namespace Go.Proofs.YtmjchicclpbaeaaGreatDoor.fnStreamNew
open Go Fw Go.ChangeShapes Go.ChangeMaps Go.WideShapes Go.ChangeAt Go.RowKit Go.Proofs.Tst
theorem own:ownKnob Tryz.prog.godebug=none:=by kernel_rfl
theorem bulk {H:Type}:Bulk (H:=H) Rows.uptoBulk Rows.uptoBulkAll where
 slice _ _:=by rw[Rows.uptoBulk]
 agg _:=by rw[Rows.uptoBulk]
 str _:=by rw[Rows.uptoBulk]
 nil:=by rw[Rows.uptoBulkAll]
 cons _ _:=by rw[Rows.uptoBulkAll]
 pos d:=by
  cases d with
  | lit l=>cases l<;>(unfold Rows.uptoBulk;omega)
  | _=>unfold Rows.uptoBulk;omega
section
variable {H:Type} {enc:TypeId×Value→H} {W:World}
end
set_option maxRecDepth 100000 in
theorem contract (H:Type)(enc:TypeId×Value→H)(W:World)(base:Nat)(args:Array Value)(ds gs:List (DataW H))(before:List MemPlace)
  (hval:∀(j:Nat) t v,Tryz.f4.params[j]? = some t→args[j]? = some v→Value.okWide Tryz.prog W .any base t v)
  (hW:DataW.Whole enc Tryz.prog Tryz.f4.params.toList Rows.fnStreamNewSpec.vars false W args.toList ds gs before) (hbd:Rows.uptoBulkAll (ds++gs)≤1048576) :
  Calls Tryz.prog 4 args W fun e W'=>∃v,e= .returned v∧Rows.fnStreamNewSpec.post enc Tryz.prog Tryz.f4 false true false false W args v W':=by
 have hW':=hW
 obtain⟨p,q,hA,hV,rfl,hfz,hnd⟩:=hW
 rw[Tryz.params4]at hA hval
 obtain⟨rfl,rfl⟩:=trodVars_none hV
 obtain⟨v0,vs0,d0,ds0,p0,q0,hargs,rfl,rfl,h0,r0⟩:=trodAll_cons hA
 obtain⟨rfl,rfl,rfl⟩:=trodAll_nil r0
 obtain rfl:args= #[v0]:=by cases args;simp_all
 simp only[List.append_nil,bulk.cons,bulk.nil]at hbd
 obtain⟨f0,hf0⟩:=h0
 obtain⟨u0,x0,hu0,hx0⟩:=elem_slice bulk Tryz.underlying22 (by kernel_rfl) (by omega) (elem_u8 Tryz.underlying5) _ _ _ hf0 (by show Rows.uptoBulk d0≤_;omega)
 obtain rfl:=slice_of Tryz.underlying22 (hval 0 22 v0 rfl rfl) hu0
 refine(show Calls Tryz.prog 4 #[_] W (Rets W (.bool true)) from lStreamNew_c W (PAll W) (PAll.sub W) _ x0 hx0).mono fun e W' ⟨he,hg⟩=>?_
 subst he
 exact⟨_,rfl,law_post (by kernel_rfl) (by rw[Tryz.params4];exact(by decide +kernel:∀t,t ∈ [22]→Tryz.prog.readableRec t=true∧t<Tryz.prog.types.size)) rfl hW' hg rfl rfl rfl (fun _ _ _=>trodAll_cons_mk (shut_bool Tryz.underlying4 _) trodAll_mk0) (ok_one (by kernel_rfl) rfl (okWide_bool_mk Tryz.underlying4 _))⟩
def flat:DataW Unit→List Value
 | .lit (.int k n)=>[.int k n]
 | .agg l=>flats l
 | _=>[]
where flats : List (DataW Unit) → List Value
 | []=>[]
 | d::r=>flat d++flats r
def put (c:Array Value):Obj→Obj
 | .cells _ t frozen=> .cells c t frozen
 | o=>o
noncomputable def laidWorld (os:Os):World :=
 {World.holding Tryz.prog os ⟨#[],#[],[]⟩ with heap:=(((World.holding Tryz.prog os ⟨#[],#[],[]⟩).heap).modify 2 (put (flat Rows.laid_unicode_utf8_acceptRanges).toArray)).modify 1 (put (flat Rows.laid_unicode_utf8_first).toArray)}
theorem laid_met (os : Os) : laidMet Tryz.prog Rows.fnStreamNewUptoRow.laid ((laidWorld os).forCall (fun _ _ => 0) ⟨#[], #[.slice none 0 0], []⟩).memory :=
 laidMet_of_run' 8 (by kernel_rfl) (by kernel_rfl)
theorem reads (os : Os) {H : Type} (enc : TypeId × Value → H) : ∃ places, DataW.whole enc Tryz.prog ((laidWorld os).forCall (fun _ _ => 0) ⟨#[], #[.slice none 0 0], []⟩).memory Tryz.f4.params.toList Rows.fnStreamNewSpec.vars false #[.slice none 0 0].toList 8 = some ([.nil], [], places) :=
 ⟨[],by kernel_rfl⟩
set_option maxRecDepth 100000 in
theorem liftedUpto (os:Os)(started:os.Started)(H:Type)(enc:TypeId×Value→H)(F:Stop.Interp) :
  ReturnsInHanded {} Tryz.checked os 4 .any ((Rows.OpenSpec.upto Rows.fnStreamNewSpec).preRow enc Tryz.prog Tryz.f4 Rows.fnStreamNewUptoRow.domain false Rows.fnStreamNewUptoRow.laid) (((Rows.OpenSpec.upto Rows.fnStreamNewSpec).at F).post enc Tryz.prog Tryz.f4 false true false false):=by
 obtain⟨places,hx⟩:=reads os enc
 refine returnsInHanded_of_row (C := Tryz.checked) (s := Rows.OpenSpec.upto Rows.fnStreamNewSpec) own started (by kernel_rfl) Tryz.func4
  (witness_row_at (enc := enc) (C := Tryz.checked) false (laidWorld os) #[.slice none 0 0] rfl (by kernel_rfl) (by kernel_rfl) (by kernel_rfl)
   (OpenSpec.preRow_of_cond 8 hx (by kernel_rfl) (fun k hk=>by cases hk;kernel_rfl) (by kernel_rfl) (laid_met os))) ?_
 intro W base args ds gs before hval hW _ hcond _ hL _ _
 exact contract H enc W base args ds gs before hval hW (of_decide_eq_true (hcond _ rfl))
end Go.Proofs.YtmjchicclpbaeaaGreatDoor.fnStreamNew
