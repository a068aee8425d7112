/- Part 8 of the proof: contracts of functions of the program. Conditions: none. -/
import Derived.Test.YtghodmnnhhhjaaaGreatDoorCards
import Derived.Test.YtghodmnnhhhjaaaGreatDoorTie
import Derived.WalkKit
import Derived.ProofKit
import Derived.OpenShut
import Derived.ChangeMaps5
import Derived.Deep.DeepHandedRow
import Derived.Lib.LaidTab
import Derived.Test.YtghodmnnhhhjaaaGreatDoorG07
import Derived.Test.YtghodmnnhhhjaaaGreatDoorFacts
import Derived.Test.YtghodmnnhhhjaaaGreatDoorG04
set_option linter.all false
set_option maxRecDepth 100000
set_option maxHeartbeats 8000000
namespace Go.Proofs.YtghodmnnhhhjaaaGreatDoor.fnExactStreamRun
open Go Fw Go.ChangeShapes Go.ChangeMaps Go.WideShapes Go.ChangeAt Go.RowKit Go.Proofs.Tst
theorem own:ownKnob Tryz.prog.godebug=none:=by kernel_rfl
theorem bulk {H:Type}:Bulk (H:=H) Rows.uptoBulk Rows.uptoBulkAll where
 slice _ _:=by rw[Rows.uptoBulk]
 agg _:=by rw[Rows.uptoBulk]
 str _:=by rw[Rows.uptoBulk]
 nil:=by rw[Rows.uptoBulkAll]
 cons _ _:=by rw[Rows.uptoBulkAll]
 pos d:=by
  cases d with
  | lit l=>cases l<;>(unfold Rows.uptoBulk;omega)
  | _=>unfold Rows.uptoBulk;omega
section
variable {H:Type} {enc:TypeId×Value→H} {W:World}
theorem e196:Elem enc Tryz.prog W Rows.uptoBulk 196 3 heldE :=
 elem_held bulk Tryz.underlying196 (by kernel_rfl) (fun i f hf => by
  have hi:=(Array.getElem?_eq_some_iff.1 hf).1
  simp at hi
  (obtain rfl|rfl|rfl:i=0∨i=1∨i=2:=by omega)<;>(obtain rfl:=(Option.some.inj hf);exact⟨rfl,by kernel_rfl⟩)) rfl rfl rfl Tryz.underlying3 Tryz.underlying37 (by kernel_rfl)
theorem e198:Elem enc Tryz.prog W Rows.uptoBulk 198 3 itemE :=
 elem_item bulk Tryz.underlying198 (by kernel_rfl) (fun i f hf => by
  have hi:=(Array.getElem?_eq_some_iff.1 hf).1
  simp at hi
  (obtain rfl|rfl|rfl:i=0∨i=1∨i=2:=by omega)<;>(obtain rfl:=(Option.some.inj hf);exact⟨rfl,by kernel_rfl⟩)) rfl rfl rfl Tryz.underlying9 Tryz.underlying4 Tryz.underlying3 Tryz.underlying37 (by kernel_rfl)
theorem e201:Elem enc Tryz.prog W Rows.uptoBulk 201 2 snapE :=
 elem_snap bulk Tryz.underlying201 (by kernel_rfl) (fun i f hf => by
  have hi:=(Array.getElem?_eq_some_iff.1 hf).1
  simp at hi
  (obtain rfl|rfl:i=0∨i=1:=by omega)<;>(obtain rfl:=(Option.some.inj hf);exact⟨rfl,by kernel_rfl⟩)) rfl rfl Tryz.underlying9 Tryz.underlying51 (by kernel_rfl) e198
theorem e54:Elem enc Tryz.prog W Rows.uptoBulk 54 3 diskE :=
 elem_disk bulk Tryz.underlying54 (by kernel_rfl) (fun i f hf => by
  have hi:=(Array.getElem?_eq_some_iff.1 hf).1
  simp at hi
  (obtain rfl|rfl|rfl:i=0∨i=1∨i=2:=by omega)<;>(obtain rfl:=(Option.some.inj hf);exact⟨rfl,by kernel_rfl⟩)) rfl rfl rfl Tryz.underlying50 Tryz.underlying51 Tryz.underlying52 (by kernel_rfl) (by kernel_rfl) (by kernel_rfl) e196 e198 e201
theorem e119:Elem enc Tryz.prog W Rows.uptoBulk 119 4 partE :=
 elem_part bulk Tryz.underlying119 (by kernel_rfl) (fun i f hf => by
  have hi:=(Array.getElem?_eq_some_iff.1 hf).1
  simp at hi
  (obtain rfl|rfl|rfl|rfl:i=0∨i=1∨i=2∨i=3:=by omega)<;>(obtain rfl:=(Option.some.inj hf);exact⟨rfl,by kernel_rfl⟩)) rfl rfl rfl rfl Tryz.underlying3 Tryz.underlying9 Tryz.underlying4 Tryz.underlying37 (by kernel_rfl)
end
set_option maxRecDepth 100000 in
theorem contract (H:Type)(enc:TypeId×Value→H)(W:World)(base:Nat)(args:Array Value)(ds gs:List (DataW H))(before:List MemPlace)
  (hval:∀(j:Nat) t v,Tryz.f8.params[j]? = some t→args[j]? = some v→Value.okWide Tryz.prog W .any base t v)
  (hW:DataW.Whole enc Tryz.prog Tryz.f8.params.toList Rows.fnExactStreamRunSpec.vars false W args.toList ds gs before) (hbd:Rows.uptoBulkAll (ds++gs)≤1048576) :
  Calls Tryz.prog 8 args W fun e W'=>∃v,e= .returned v∧Rows.fnExactStreamRunSpec.post enc Tryz.prog Tryz.f8 false true false false W args v W':=by
 have hW':=hW
 obtain⟨p,q,hA,hV,rfl,hfz,hnd⟩:=hW
 rw[Tryz.params8]at hA hval
 obtain⟨rfl,rfl⟩:=trodVars_none hV
 obtain⟨v0,vs0,d0,ds0,p0,q0,hargs,rfl,rfl,h0,r0⟩:=trodAll_cons hA
 obtain⟨v1,vs1,d1,ds1,p1,q1,rfl,rfl,rfl,h1,r1⟩:=trodAll_cons r0
 obtain⟨rfl,rfl,rfl⟩:=trodAll_nil r1
 obtain rfl:args= #[v0,v1]:=by cases args;simp_all
 simp only[List.append_nil,bulk.cons,bulk.nil]at hbd
 obtain⟨c0,rfl⟩:=agg_of Tryz.underlying54 (hval 0 54 v0 rfl rfl)
 obtain⟨f0,hf0⟩:=h0
 obtain⟨x0,_,hx0⟩:=e54 _ _ _ hf0 (by show Rows.uptoBulk d0≤_;omega)
 obtain⟨f1,hf1⟩:=h1
 obtain⟨u1,x1,hu1,hx1⟩:=elem_slice bulk Tryz.underlying55 (by kernel_rfl) (by omega) e119 _ _ _ hf1 (by show Rows.uptoBulk d1≤_;omega)
 obtain rfl:=slice_of Tryz.underlying55 (hval 1 55 v1 rfl rfl) hu1
 refine(show Calls Tryz.prog 8 #[_,_] W (Rets W (.bool true)) from xStreamRun_c W (PAll W) (PAll.sub W) _ x0 hx0 _ x1 hx1).mono fun e W' ⟨he,hg⟩=>?_
 subst he
 exact⟨_,rfl,law_post (by kernel_rfl) (by rw[Tryz.params8];exact(by decide +kernel:∀t,t ∈ [54,55]→Tryz.prog.readableRec t=true∧t<Tryz.prog.types.size)) rfl hW' hg rfl rfl rfl (fun _ _ _=>trodAll_cons_mk (shut_bool Tryz.underlying4 _) trodAll_mk0) (ok_one (by kernel_rfl) rfl (okWide_bool_mk Tryz.underlying4 _))⟩
def flat:DataW Unit→List Value
 | .lit (.int k n)=>[.int k n]
 | .agg l=>flats l
 | _=>[]
where flats : List (DataW Unit) → List Value
 | []=>[]
 | d::r=>flat d++flats r
def put (c:Array Value):Obj→Obj
 | .cells _ t frozen=> .cells c t frozen
 | o=>o
noncomputable def laidWorld (os:Os):World :=
 {World.holding Tryz.prog os ⟨#[],#[],[]⟩ with heap:=(((World.holding Tryz.prog os ⟨#[],#[],[]⟩).heap).modify 2 (put (flat Rows.laid_unicode_utf8_acceptRanges).toArray)).modify 1 (put (flat Rows.laid_unicode_utf8_first).toArray)}
theorem laid_met (os : Os) : laidMet Tryz.prog Rows.fnExactStreamRunUptoRow.laid ((laidWorld os).forCall (fun _ _ => 0) ⟨#[], #[.agg #[.slice none 0 0, .slice none 0 0, .slice none 0 0], .slice none 0 0], []⟩).memory :=
 laidMet_of_run' 8 (by kernel_rfl) (by kernel_rfl)
theorem reads (os : Os) {H : Type} (enc : TypeId × Value → H) : ∃ places, DataW.whole enc Tryz.prog ((laidWorld os).forCall (fun _ _ => 0) ⟨#[], #[.agg #[.slice none 0 0, .slice none 0 0, .slice none 0 0], .slice none 0 0], []⟩).memory Tryz.f8.params.toList Rows.fnExactStreamRunSpec.vars false #[.agg #[.slice none 0 0, .slice none 0 0, .slice none 0 0], .slice none 0 0].toList 8 = some ([.agg [.nil, .nil, .nil], .nil], [], places) :=
 ⟨[],by kernel_rfl⟩
set_option maxRecDepth 100000 in
theorem liftedUpto (os:Os)(started:os.Started)(H:Type)(enc:TypeId×Value→H)(F:Stop.Interp) :
  ReturnsInHanded {} Tryz.checked os 8 .any ((Rows.OpenSpec.upto Rows.fnExactStreamRunSpec).preRow enc Tryz.prog Tryz.f8 Rows.fnExactStreamRunUptoRow.domain false Rows.fnExactStreamRunUptoRow.laid) (((Rows.OpenSpec.upto Rows.fnExactStreamRunSpec).at F).post enc Tryz.prog Tryz.f8 false true false false):=by
 obtain⟨places,hx⟩:=reads os enc
 refine returnsInHanded_of_row (C := Tryz.checked) (s := Rows.OpenSpec.upto Rows.fnExactStreamRunSpec) own started (by kernel_rfl) Tryz.func8
  (witness_row_at (enc := enc) (C := Tryz.checked) false (laidWorld os) #[.agg #[.slice none 0 0, .slice none 0 0, .slice none 0 0], .slice none 0 0] rfl (by kernel_rfl) (by kernel_rfl) (by kernel_rfl)
   (OpenSpec.preRow_of_cond 8 hx (by kernel_rfl) (fun k hk=>by cases hk;kernel_rfl) (by kernel_rfl) (laid_met os))) ?_
 intro W base args ds gs before hval hW _ hcond _ hL _ _
 exact contract H enc W base args ds gs before hval hW (of_decide_eq_true (hcond _ rfl))
end Go.Proofs.YtghodmnnhhhjaaaGreatDoor.fnExactStreamRun
