/- Part 12 of the proof: contracts of functions of the program. Conditions: none. -/
import Derived.Stop.LaidErr
import Derived.LaidHandle
import Derived.Test.YtcagigfnblfnkaaGreatDoorCards
import Derived.Test.YtcagigfnblfnkaaGreatDoorTie
import Derived.WalkKit
import Derived.ProofKit
import Derived.OpenShut
import Derived.ChangeMaps5
import Derived.Deep.DeepHandedRow
import Derived.Lib.LaidTab
import Derived.Test.YtcagigfnblfnkaaGreatDoorG11
import Derived.Test.YtcagigfnblfnkaaGreatDoorFacts
import Derived.Test.YtcagigfnblfnkaaGreatDoorG06
import Derived.Test.YtcagigfnblfnkaaGreatDoorG05
set_option linter.all false
set_option maxRecDepth 100000
set_option maxHeartbeats 8000000
namespace Go.Proofs.YtcagigfnblfnkaaGreatDoor.fnScriptBad
open Go Fw Go.ChangeShapes Go.ChangeMaps Go.WideShapes Go.ChangeAt Go.RowKit Go.Proofs.Tst
theorem own:ownKnob Tryz.prog.godebug=none:=by kernel_rfl
theorem bulk {H:Type}:ya (H:=H) Rows.uptoBulk Rows.uptoBulkAll where
 slice _ _:=by rw[Rows.uptoBulk]
 agg _:=by rw[Rows.uptoBulk]
 str _:=by rw[Rows.uptoBulk]
 nil:=by rw[Rows.uptoBulkAll]
 cons _ _:=by rw[Rows.uptoBulkAll]
 pos d:=by
  cases d with
  | lit l=>cases l<;>(unfold Rows.uptoBulk;omega)
  | _=>unfold Rows.uptoBulk;omega
section
variable {H:Type} {enc:TypeId×Value→H} {W:World}
end
set_option maxRecDepth 100000 in
theorem contract (H:Type)(enc:TypeId×Value→H)(W:World)(base:Nat)(args:Array Value)(ds gs:List (DataW H))(before:List MemPlace)
  (I7:∀(j:Nat) t v,Tryz.f8.params[j]? = some t→args[j]? = some v→Value.okWide Tryz.prog W .any base t v)
  (hW:DataW.Whole enc Tryz.prog Tryz.f8.params.toList Rows.fnScriptBadSpec.vars false W args.toList ds gs before) (hbd:Rows.uptoBulkAll (ds++gs)≤1048576) (c7:nH (uw W)) (eN:mR (uw W)) :
  Calls Tryz.prog 8 args W fun e W'=>∃v,e= .returned v∧Rows.fnScriptBadSpec.post enc Tryz.prog Tryz.f8 false true false false W args v W':=by
 have MK:=hW;obtain⟨p,q,hA,hV,rfl,hfz,jE⟩:=hW;rw[Tryz.params8]at hA I7;obtain⟨rfl,rfl⟩:=trodVars_none hV;obtain⟨v0,vs0,d0,ds0,p0,q0,VP,rfl,rfl,h0,r0⟩:=trodAll_cons hA;obtain⟨rfl,rfl,rfl⟩:=trodAll_nil r0;obtain rfl:args= #[v0]:=by cases args;simp_all
 simp only[List.append_nil,bulk.cons,bulk.nil]at hbd;obtain⟨f0,hf0⟩:=h0;obtain⟨u0,x0,hu0,Fy⟩:=aw4 bulk Tryz.underlying22 (by kernel_rfl) (by omega) (aw5 Tryz.underlying5) _ _ _ hf0 (by show Rows.uptoBulk d0≤_;omega);obtain rfl:=aAq Tryz.underlying22 (I7 0 22 v0 rfl rfl) hu0;refine(show Calls Tryz.prog 8 #[_] W (b8 W<|.bool true) from az7 W (uw W) (uw.sub W) _ x0 Fy c7 eN).mono fun e W' ⟨he,hg⟩=>?_;subst he;exact⟨_,rfl,aAe (by kernel_rfl) (by rw[Tryz.params8];exact(by decide +kernel:∀t,t ∈ [22]→Tryz.prog.readableRec t=true∧t<Tryz.prog.types.size)) rfl MK hg rfl rfl rfl (fun _ _ _=>trodAll_cons_mk (shut_bool Tryz.underlying4 _) trodAll_mk0)<|ok_one (by kernel_rfl) rfl<|okWide_bool_mk Tryz.underlying4 _⟩
def flat:DataW Unit→List Value
 | .lit (.int k n)=>[.int k n]
 | .agg l=>io l
 | _=>[]
where io:List (DataW Unit)→List Value
 | []=>[]
 | d::r=>flat d++io r
def put (c:Array Value):Obj→Obj
 | .cells _ t frozen=> .cells c t frozen
 | o=>o
noncomputable def laidWorld (os:Os):World :=
 {World.holding Tryz.prog os ⟨#[],#[],[]⟩ with heap:=(((((((World.holding Tryz.prog os ⟨#[],#[],[]⟩).heap).modify 5<|put (flat Rows.laid_math_bits_deBruijn32tab).toArray).modify 6<|put (flat Rows.laid_math_bits_deBruijn64tab).toArray).modify 2<|put (flat Rows.laid_internal_strconv_uint64pow10).toArray).modify 4<|put (flat Rows.laid_unicode_utf8_acceptRanges).toArray).modify 1<|put aw6).modify 3 (put (flat Rows.laid_unicode_utf8_first).toArray)}
theorem laid_met (os:Os):laidMetH Tryz.prog Rows.fnScriptBadUptoRow.laid ((laidWorld os).forCall (fun _ _=>0) ⟨#[],#[.slice none 0 0],[]⟩).memory :=
 laidMetH_of_parts (laidMet_of_run' 8 (by kernel_rfl)<|by kernel_rfl) (by kernel_rfl)
theorem reads (os:Os){H:Type}(enc:TypeId×Value→H):∃places,DataW.whole enc Tryz.prog ((laidWorld os).forCall (fun _ _=>0) ⟨#[],#[.slice none 0 0],[]⟩).memory Tryz.f8.params.toList Rows.fnScriptBadSpec.vars false #[.slice none 0 0].toList 8=some ([.nil],[],places) :=
 ⟨[],by kernel_rfl⟩
set_option maxRecDepth 100000 in
theorem liftedUpto (os:Os)(started:os.Started)(H:Type)(enc:TypeId×Value→H)(F:Stop.Interp) :
  ReturnsInHanded {} Tryz.checked os 8 .any ((Rows.OpenSpec.upto Rows.fnScriptBadSpec).preRow enc Tryz.prog Tryz.f8 Rows.fnScriptBadUptoRow.domain false Rows.fnScriptBadUptoRow.laid) (((Rows.OpenSpec.upto Rows.fnScriptBadSpec).at F).post enc Tryz.prog Tryz.f8 false true false false):=by
 obtain⟨places,hx⟩:=reads os enc
 refine returnsInHanded_of_row (C:=Tryz.checked) (s:=Rows.OpenSpec.upto Rows.fnScriptBadSpec) own started (by kernel_rfl) Tryz.func8
  (witness_row_at (enc:=enc) (C:=Tryz.checked) false (laidWorld os) #[.slice none 0 0] rfl (by kernel_rfl) (by kernel_rfl) (by kernel_rfl)
   (OpenSpec.preRow_of_cond 8 hx (by kernel_rfl) (fun k hk=>by cases hk;kernel_rfl) (by kernel_rfl)<|laid_met os)) ?_
 intro W base args ds gs before I7 hW _ hcond _ hL _ _;have hl:laidMet Tryz.prog [("math/bits.deBruijn32tab",Rows.laid_math_bits_deBruijn32tab),("math/bits.deBruijn64tab",Rows.laid_math_bits_deBruijn64tab),("internal/strconv.uint64pow10",Rows.laid_internal_strconv_uint64pow10),("unicode/utf8.acceptRanges",Rows.laid_unicode_utf8_acceptRanges),("unicode/utf8.first",Rows.laid_unicode_utf8_first)] W:=(show _∧handlesMet Tryz.prog [("errors.errorType",Rows.laid_errors_errorType)] W from hL).1;have eN:mR (uw W):=aAr (Lib.tabIs_of_head abp (by kernel_rfl) Tryz.underlying228 Tryz.underlying170 (by kernel_rfl) (by kernel_rfl)<|show laidMet Tryz.prog (("internal/strconv.uint64pow10",Lib.tabData .u64 Lib.pow10Tab)::_) W from laidMet.tail<|laidMet.tail<|hl);exact contract H enc W base args ds gs before I7 hW (of_decide_eq_true<|hcond _ rfl) (axC (show _∧handlesMet Tryz.prog [("errors.errorType",Rows.laid_errors_errorType)] W from hL).2) eN
end Go.Proofs.YtcagigfnblfnkaaGreatDoor.fnScriptBad
