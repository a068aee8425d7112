/- Part 6 of the proof: the program logic and plain functions. Conditions: none. -/
import Derived.WideKeyArgs
import Derived.ChangeArms
import Derived.DataElems
import Derived.ChangeSame
import Derived.Test.YtcagigfnblfnkaaGreatDoorG02
import Derived.Test.YtcagigfnblfnkaaGreatDoorG05
import Derived.Test.YtcagigfnblfnkaaGreatDoorG04
import Derived.Recover
import Derived.Laws.BytesArg
import Derived.Laws.IdiomStrings
import Derived.Conc.LoneCalls
import Derived.Test.YtcagigfnblfnkaaGreatDoorG03
import Derived.Test.YtcagigfnblfnkaaGreatDoorProg
import Derived.WalkKit
import Derived.LaidEql
import Derived.Stop.Asserts
import Derived.RowKitTokens
import Derived.Shelf.SlGeneric
import Derived.Shelf.Strings.Search1
import Derived.Shelf.Strings.Search2
import Derived.Shelf.Strings.Count
import Derived.Shelf.SlIterI.Nil
import Derived.Shelf.SortM.Plain
import Derived.Shelf.SortM.SortNone
import Derived.Ground.GgzProg
import Derived.Shelf.SlSortCmp.WholeK
import Derived.Ground.SlsfProg
import Derived.Ground.SlgmProg
import Derived.Shelf.Strings.Builder1
import Derived.Shelf.Strconv.Itoa3
import Derived.Lib.LaidTab
set_option linter.all false
set_option maxRecDepth 100000
set_option maxHeartbeats 8000000
namespace Fw
open Go
section
variable {H:Type} {enc:TypeId×Value→H} {P:Program} {W:World}
structure ya (bk:DataW H→Nat) (oq:List (DataW H)→Nat):Prop where
 slice:∀es sp,bk (.slice es sp)=oq es+oq sp+1
 agg:∀ps,bk (.agg ps)=oq ps+1
 str:∀b,bk (.lit<|.string b)=b.length+1
 nil:oq []=0
 cons:∀d r,oq (d::r)=bk d+oq r
 pos:∀d,1≤bk d
variable {bk:DataW H→Nat} {oq:List (DataW H)→Nat}
theorem ya.len (hb:ya bk oq):∀l,l.length≤oq l
 | []=>by simp
 | d::r=>by
  have h1:=hb.len r;have h2:=hb.pos d;rw[hb.cons];simp;omega
theorem ya.mem (hb:ya bk oq){d:DataW H}:∀{l:List (DataW H)},d ∈ l→bk d≤oq l
 | [],h=>by simp at h
 | e::r,h=>by
  rw[hb.cons];rcases List.mem_cons.1 h with rfl|h
  ·omega
  ·have:=hb.mem h;omega
theorem ya.as4 (hb:ya bk oq){l:List (DataW H×List MemPlace)}{i:Nat}(hi:i<l.length):bk (l[i]).1≤oq (l.map<|fun x=>x.1) :=
 hb.mem (List.mem_map.2 ⟨l[i],List.getElem_mem hi,rfl⟩)
abbrev Reads (enc:TypeId×Value→H) (P:Program) (W:World) (n:Nat) (t:TypeId) (cs:List Value):Option (DataW H×List MemPlace):=DataW.trod enc P W 0 (fun _=>true) true n t cs
def S4 (enc:TypeId×Value→H)(P:Program)(W:World)(bk:DataW H→Nat)(t:TypeId)(sz:Nat){α:Type}(E:PH→α→List Value→Prop):Prop :=
 ∀n cs x,Reads enc P W n t cs=some x→bk x.1≤1048576→∃a,cs.length=sz∧E (uw W) a cs
theorem aw5 {t:TypeId}(ht:P.underlying t=some (.int .u8)):S4 enc P W bk t 1 ue:=by
 intro n cs x h _;obtain⟨i,rfl,_,hw⟩:=DataW.trod_int ht h;simp[Lit.wf,IntKind.min,IntKind.max,IntKind.signed,IntKind.bits]at hw;refine⟨UInt8.ofNat i.toNat,rfl,?_⟩;show[Value.int .u8 i]=[.int .u8 ((UInt8.ofNat i.toNat).toNat:Int)];congr 2;rw[UInt8.toNat_ofNat'];omega
theorem Zs {α:Type}{Q:Nat→α→Prop}:∀n,(∀i,i<n→∃x,Q i x)→∃xs:List α,xs.length=n∧∀i x,xs[i]? = some x→Q i x
 | 0,_=>⟨[],rfl,by simp⟩
 | n+1,h=>by
  obtain⟨xs,h1,h2⟩:=Zs n (fun i hi=>h i<|by omega);obtain⟨x,hx⟩:=h n (by omega);refine⟨xs++[x],by simp[h1],fun i y hy=>?_⟩;by_cases hi:i<n
  ·rw[List.getElem?_append_left<|by omega]at hy;exact h2 i y hy
  ·rw[List.getElem?_append_right<|by omega]at hy;have:i=n:=by
    have:=(List.getElem?_eq_some_iff.1 hy).1;simp at this;omega
   subst this;simp[h1]at hy;subst hy;exact hx
theorem mapM_at {α β:Type}{f:α→Option β}:∀{l:List α} {r:List β},l.mapM f=some r→∀(i:Nat) (x:α),l[i]? = some x→f x=r[i]?
 | [],r,h,i,x,hx=>by simp at hx
 | y::t,r,h,i,x,hx=>by
  simp only[List.mapM_cons,Option.bind_eq_bind,Option.bind_eq_some_iff,Option.pure_def,Option.some.injEq]at h;obtain⟨z,h1,u,h2,rfl⟩:=h;cases i with
  | zero=>simp at hx;subst hx;simpa using h1
  | succ i=>simp only[List.getElem?_cons_succ]at hx ⊢;exact mapM_at h2 i x hx
theorem aao {b o:Nat}{v:Value}(h:W.cell? ⟨b,o,none⟩=some v):oe (uw W) b o v:=by
 unfold World.cell? at h;unfold oe uw;split at h
 ·rename_i C e fz hb;exact⟨C,e,fz,hb,by simpa using h⟩
 ·cases h
theorem aw4 {α:Type}{E:PH→α→List Value→Prop}(hb:ya bk oq){t e:TypeId}{sz:Nat}(ht:P.underlying t=some (.slice e))(hz:P.cellsOf e=sz)(eF:0<sz)(hE:S4 enc P W bk e sz E) :
  ∀n cs x,Reads enc P W n t cs=some x→bk x.1≤1048576→∃v xs,cs=[v]∧aU iN E sz (uw W) v xs:=by
 intro n cs x h hx;rcases DataW.trod_slice ht h with ⟨rfl,_⟩|⟨a,len,cap,afx,rest,m,_,rfl,rfl,_,h2,_,h4,h5,_,_⟩
 ·exact⟨_,[],rfl,aU.nil _ _ _⟩
 ·simp only[hb.slice]at hx;rw[hz]at h5;have hle:=hb.len<|afx.map (·.1);rw[List.length_map]at hle;have DX:∀i,i<len→∃y:α,∃cs,cs.length=sz∧E (uw W) y cs∧∀j v,cs[j]? = some v→W.cell? ((a.add<|i*sz).add j)=some v:=by
   intro i hi;have h6:=h5 i hi;rw[List.getElem?_eq_getElem<|by omega]at h6;obtain⟨cs,k1,k2⟩:=Option.bind_eq_some_iff.1 h6;obtain⟨y,k3,k4⟩:=hE m cs _ k2 (Nat.le_trans (hb.as4<|by omega)<|by omega);refine⟨y,cs,k3,k4,fun j v hj=>?_⟩;unfold World.cells? at k1;split at k1
   ·have hjl:=(List.getElem?_eq_some_iff.1 hj).1;rw[←hj];exact mapM_at k1 j j (by rw[List.getElem?_range<|by omega])
   ·cases k1
  obtain⟨xs,x1,x2⟩:=Zs len DX;refine⟨_,xs,rfl,some a,cap,by rw[x1],by omega,by simp only[iN];omega,?_⟩;by_cases h0:len=0
  ·exact .inl (List.eq_nil_of_length_eq_zero<|by omega)
  ·right;have XK:a.spot=none:=by
    obtain⟨y,cs,y1,_,y2⟩:=DX 0 (by omega);have:=World.cell?_spot (y2 0 cs[0]<|by simp);simpa [Addr.add] using this
   obtain⟨b,o,sp⟩:=a;simp only at XK;subst XK;refine⟨b,o,rfl,fun i y hy=>?_⟩;obtain⟨cs,c1,c2,c3⟩:=x2 i y hy;refine⟨cs,c1,c2,fun j v hj=>aao ?_⟩;have:=c3 j v hj
   rwa [Addr.add_lit,Addr.add_lit]at this
variable {ti ts tb tis:TypeId}
theorem avq {w w':World}(h:Ext w w'){p:MemPlace}(hp:p.block<w.heap.size):w.sameAt w' p:=by
 have hb:=h.block p.block hp;cases p with
 | cell b off=>simp only[World.sameAt,World.cell?];simp only[MemPlace.block]at hb;rw[hb]
 | map b=>simp only[World.sameAt];simpa [MemPlace.block] using hb
end
end Fw
namespace Fw
open Go Go.ChangeShapes Go.WideShapes
section
variable {H:Type} {enc:TypeId×Value→H} {P:Program}
theorem abA (hl:laidOutB P=true){W W':World}{sp':Nat→Bool}:∀{ts:List TypeId} {vs:List Value} {ds:List (DataW H)} {ps:List MemPlace},(∀t,t ∈ ts→P.readableRec t=true∧t<P.types.size) →
  DataW.TrodAll enc P W 0 (fun _=>true) true ts vs ds ps→(∀p ∈ ps,W.sameAt W' p)→(∀p ∈ ps,sp' p.block=true)→DataW.TrodAll enc P W' 0 sp' true ts vs ds ps
 | [],_,_,_,_,h,_,_=>by
  obtain⟨rfl,rfl,rfl⟩:=trodAll_nil h;rfl
 | t::ts,_,_,_,hr,h,hs,hq=>by
  obtain⟨v,vs1,d,ds1,a,b,rfl,rfl,rfl,h1,h2⟩:=trodAll_cons h
  exact⟨a,b,WideElems.Trod_stays hl (hr t<|by simp).1 (hr t<|by simp).2 h1 (fun p hp=>hs p<|by simp[hp])<|fun p hp=>hq p<|by simp[hp],
   abA hl (fun t ht=>hr t<|by simp[ht]) h2 (fun p hp=>hs p<|by simp[hp]) (fun p hp=>hq p<|by simp[hp]),rfl⟩
theorem aru {W W':World}(h:Ext W W')(may:MemPlace→Prop):W.keptBut W' may:=by
 refine⟨h.os,h.output,fun i hi=>?_⟩;rw[h.block i hi];cases W.heap[i]? with
 | none=>simp
 | some o=>cases o<;>simp
theorem aAe {f:Func}{s:ChangeSpec}{apart fresh handsOn again:Bool}{W W':World}{args:Array Value}{ds gs:List (DataW H)}{before:List MemPlace}(hl:laidOutB P=true)(hr:∀t,t ∈ f.params.toList→P.readableRec t=true∧t<P.types.size)
  (hv:s.vars=[]) (hW:DataW.Whole enc P f.params.toList s.vars apart W args.toList ds gs before) (hx:Ext W W') (gH:(s.fn H<|ds++gs).results=[.lit<|.bool true]) (hfa:(s.fn H<|ds++gs).args=ds) (oH:(s.fn H<|ds++gs).vars=[])
  (ano:∀(b:Nat) (sp:Nat→Bool) (hd:Bool),DataW.TrodAll enc P W' b sp hd f.resultTypes.toList ((Value.bool true).resultList f.resultTypes.size) [.lit<|.bool true] [])
  (dT:∀(j:Nat) (t:TypeId) (r:Value),f.resultTypes[j]? = some t→((Value.bool true).resultList f.resultTypes.size)[j]? = some r→Value.okWide P W' .any 0 t r) :
  s.post enc P f apart fresh handsOn again W args (.bool true) W':=by
 have MK:=hW;obtain⟨p,q,hA,hV,rfl,hz,hn⟩:=hW;rw[hv]at hV;have hgs:gs=[]∧q=[]:=by
  cases gs with
  | nil=>exact⟨rfl,hV⟩
  | cons d r=>exact hV.elim
 obtain⟨rfl,rfl⟩:=hgs;rw[List.append_nil]at MK hz hn;have ef:∀m ∈ p,m.block<W.heap.size:=fun m hm=>MK.lt m hm;have hold:∀m ∈ p,(fun b=>decide (b<W.heap.size)) m.block=true:=fun m hm=>by simpa using ef m hm
 have VP:∀sp:Nat→Bool,(∀m ∈ p,sp m.block=true)→DataW.TrodAll enc P W' 0 sp true f.params.toList args.toList (s.fn H<|ds++[]).args p:=fun sp b_=>by
  rw[hfa];exact abA hl hr hA (fun m hm=>avq hx<|ef m hm) b_
 have XX:∀sp:Nat→Bool,DataW.TrodVars enc P W' sp s.vars (s.fn H<|ds++[]).vars []:=fun sp=>by rw[hv,oH];rfl
 have W9:∀(b:Nat) (sp:Nat→Bool) (hd:Bool),DataW.TrodAll enc P W' b sp hd f.resultTypes.toList ((Value.bool true).resultList f.resultTypes.size) (s.fn H<|ds++[]).results []:=fun b sp hd=>by rw[gH];exact ano b sp hd
 refine⟨ds,[],p,[],p,[],MK,W9 _ _ _,VP _ hold,XX _,World.keptBut_mono (fun m hm=>⟨hm,Or.inr ?_⟩)<|aru hx (· ∈ p),fun _=>?_⟩
 ·simpa using hm
 ·refine⟨dT,_,_,([]++p)++[],⟨[]++p,[],trodAll_append (VP _<|fun _ _=>rfl)<|W9 _ _ _,XX _,rfl,?_,?_⟩,?_⟩
  ·intro b off hp;have IV:MemPlace.cell b off ∈ p:=by simpa using hp
   have h1:=hz b off IV;have h2:=hx.block b<|ef _ IV;simp only[World.frozen?]at h1 ⊢;rw[h2];exact h1
  ·intro ha;simpa using hn ha
  ·intro m hm _;simpa using hm
end
end Fw
namespace Fw
open Go Go.WideShapes
theorem aAq {P:Program}{W:World}{b:Nat}{t e:TypeId}{v u:Value}(ht:P.underlying t=some (.slice e))(h:Value.okWide P W .any b t v)(hu:v.cells.toList=[u]):v=u:=by
 unfold Value.okWide at h;rw[ht]at h;unfold Cell.okWide at h;rw[ht]at h;cases v<;>simp_all [Value.cells,Cell.ok]
end Fw
namespace Fw
open Go
def Gj:Fr→iM→List Value→Prop:=fun F x cs=>∃a m c,cs=[.int .i64 x.kind,str x.path,.slice a m c]∧dH x.kind∧x.path.length≤16777216∧OI F (.slice a m c) x.bytes
abbrev G_ (F:Fr) (v:Value) (xs:List iM):Prop:=∃e,cz Gj 3 e F v xs
theorem Gj.rd {F:Fr}{x:iM}{cs:List Value}{G:PH}(h:Gj F x cs)(hle:an (fh F) G)(hn:(dm F).Nodup):qq G x cs:=by
 obtain⟨a,m,c,rfl,h1,h2,h3⟩:=h;exact⟨a,m,c,rfl,h1,h2,h3.rd hle hn⟩
theorem G_.rd {F:Fr}{v:Value}{xs:List iM}{G:PH}(h:G_ F v xs)(hle:an (fh F) G)(hn:(dm F).Nodup):ac4 G v xs:=let ⟨_,h⟩:=h;h.rd hle hn (fun _ _ _ h1 h2 h=>Gj.rd h h1 h2)
theorem G_.mk {e:TypeId}{F:Fr}{v:Value}{xs:List iM}(h:cz Gj 3 e F v xs):G_ F v xs:=⟨_,h⟩
def Gv:Fr→ga→List Value→Prop:=fun F x cs=>∃a m c,cs=[.int .i64 x.kind,str x.path,.bool x.dir,.slice a m c]∧dH x.kind∧x.path.length≤16777216∧OI F (.slice a m c) x.bytes
abbrev Ha (F:Fr) (v:Value) (xs:List ga):Prop:=∃e,cz Gv 4 e F v xs
theorem Gv.rd {F:Fr}{x:ga}{cs:List Value}{G:PH}(h:Gv F x cs)(hle:an (fh F) G)(hn:(dm F).Nodup):tY G x cs:=by
 obtain⟨a,m,c,rfl,h1,h2,h3⟩:=h;exact⟨a,m,c,rfl,h1,h2,h3.rd hle hn⟩
theorem Ha.rd {F:Fr}{v:Value}{xs:List ga}{G:PH}(h:Ha F v xs)(hle:an (fh F) G)(hn:(dm F).Nodup):ac5 G v xs:=let ⟨_,h⟩:=h;h.rd hle hn (fun _ _ _ h1 h2 h=>Gv.rd h h1 h2)
theorem Ha.mk {e:TypeId}{F:Fr}{v:Value}{xs:List ga}(h:cz Gv 4 e F v xs):Ha F v xs:=⟨_,h⟩
section
variable {w0 w w':World} {G0 G G':PH} {S:List Nat} {B Bs:List aW}
end
section
variable {H:Type} {enc:TypeId×Value→H} {P:Program} {W:World} {bk:DataW H→Nat} {oq:List (DataW H)→Nat} {ti ts tb tis:TypeId}
end
end Fw
namespace Sp
open Fw Nd
def wD:Bs:=[100,105,114]
def wW:Bs:=[119,114,105,116,101]
def wR:Bs:=[114,101,109,111,118,101]
def wS:Bs:=[115,110,97,112]
def wB:Bs:=[98,97,99,107]
def wX:Bs:=[100,114,111,112]
def wC:Bs:=[99,108,111,110,101]
def wQ:Bs:=[114,101,97,100]
def wL:Bs:=[108,105,115,116]
def eu (d:aK):Option aK→aK×Bs
 | none=>(d,[110,111,10])
 | some x=>(x,[111,107,10])
def kD (s:Bs):List Int:=s.map fun c=>(c.toNat:Int)
def qy (l:List Int):Bs:=l.map fun x=>UInt8.ofNat x.toNat
def tM:Option (List Int)→Bs
 | none=>[110,111,10]
 | some l=>[105,115,32]++qy l++[10]
def gr (d:aK)(line:Bs):aK×Bs:=match cutAt 32 line with
 | [w]=>if w=wL then(d,lT d++[101,110,100,10]) else(d,[119,104,97,116,10])
 | [w,p]=>if w=wD then eu d (bV d ⟨1,p,[]⟩) else if w=wR then eu d (bV d ⟨3,p,[]⟩) else if w=wS then eu d (cT d p) else if w=wB then eu d (dC d p) else if w=wX then eu d (dq d p)
  else if w=wQ then(d,tM<|qu d p) else(d,[119,104,97,116,10])
 | [w,p,q]=>if w=wW then eu d (bV d ⟨2,p,kD q⟩) else if w=wC then eu d (dj d p q) else if w=wQ then(d,tM<|fD d q p) else(d,[119,104,97,116,10])
 | _=>(d,[119,104,97,116,10])
def me (text:Bs):List Bs:=(cutAt 10 text).dropLast
def lR:List Bs→aK×Bs→aK×Bs
 | [],s=>s
 | l::r,s=>lR r ((gr s.1 l).1,s.2++(gr s.1 l).2)
def xZ (L:List ao):Bs:=[115,116,111,114,101,100,32]++Go.Lib.decDigits (stored L)++[32,111,102,32]++Go.Lib.decDigits (shown L).toNat++[10]
def iV (text:Bs):Bs:=if 400<text.length then[116,111,111,32,108,111,110,103,10] else
 (lR (me text) (⟨[],[],[]⟩,[])).2++xZ (lR (me text) (⟨[],[],[]⟩,[])).1.store
theorem Cz (c:UInt8):∀a b:Bs,cutAt c (a++c::b)=cutAt c a++cutAt c b
 | [],b=>by simp[cutAt]
 | x::r,b=>by
  have ih:=Cz c r b;rw[List.cons_append];simp only[cutAt];split
  ·rw[ih];simp
  ·rw[ih];have de:=CA c r;cases e:cutAt c r with
   | nil=>exact absurd e de
   | cons w ws=>simp
theorem yr (c:UInt8):∀b:Bs,c ∉ b→cutAt c b=[b]
 | [],_=>rfl
 | x::r,h=>by
  have ih:=yr c r<|fun hh=>h<|List.mem_cons_of_mem _ hh;simp only[cutAt];rw[if_neg<|fun e=>h<|by simp[e],ih]
theorem JE {a b:Bs}(h:(10:UInt8) ∉ b):me (a++10::b)=cutAt 10 a:=by
 unfold me;rw[Cz,yr 10 b h];simp
theorem Rf {b:Bs}(h:(10:UInt8) ∉ b):me b=[]:=by
 unfold me;rw[yr 10 b h];rfl
theorem afM {a b:Bs}(h:(10:UInt8) ∉ b)(hl:(a++10::b).length≤400):iV (a++[10])=iV (a++10::b):=by
 have h1:me (a++[10])=me (a++10::b):=by rw[JE h,JE<|by simp]
 unfold iV;have h2:(a++10::b).length=a.length+(b.length+1):=by simp
 have h3:(a++[10]).length=a.length+1:=by simp
 rw[h1,if_neg<|by omega,if_neg<|by omega]
theorem afN {b:Bs}(h:(10:UInt8) ∉ b)(hl:b.length≤400):iV []=iV b:=by
 unfold iV;have h0:([]:Bs).length=0:=rfl;rw[Rf h,Rf (by simp:(10:UInt8) ∉ ([]:Bs)),if_neg<|by rw[h0];omega,if_neg<|by omega]
theorem aaN:∀(l m:List Bs) (s:aK×Bs),lR (l++m) s=lR m (lR l s)
 | [],_,_=>rfl
 | x::r,m,s=>by rw[List.cons_append,lR,lR,aaN r m]
theorem asx (d:aK):gr d [122,122,122]=(d,[119,104,97,116,10]):=by
 have:cutAt 32 [122,122,122]=[[122,122,122]]:=by decide
 unfold gr;rw[this];simp[wL]
def kM (text:Bs):aK×Bs:=lR (me text) (⟨[],[],[]⟩,[])
theorem HE {t:Bs}(h:t.length≤400):iV t=(kM t).2++xZ (kM t).1.store:=by
 unfold iV kM;rw[if_neg<|by omega]
theorem aun {x:Bs}(hx:x=[]∨∃a,x=a++[10]):kM (x++[122,122,122,10])=((kM x).1,(kM x).2++[119,104,97,116,10]):=by
 have hz:(10:UInt8) ∉ ([122,122,122]:Bs):=by decide
 have hl:me (x++[122,122,122,10])=me x++[[122,122,122]]:=by
  rcases hx with rfl|⟨a,rfl⟩
  ·decide
  ·have e:a++[10]++[122,122,122,10]=(a++10::[122,122,122])++10::[]:=by simp
   rw[e,JE<|by simp,JE<|by simp,Cz,yr 10 _ hz]
 unfold kM;rw[hl,aaN];simp only[lR,asx]
theorem afR {x:Bs}(hx:x=[]∨∃a,x=a++[10])(hl:x.length+4≤400):iV (x++[122,122,122,10])=(kM x).2++[119,104,97,116,10]++xZ (kM x).1.store:=by
 rw[HE<|by simp;omega,aun hx]
theorem afP:iV []=[115,116,111,114,101,100,32,48,32,111,102,32,48,10]:=by decide +kernel
theorem HF {t:Bs}(h:400<t.length):iV t=[116,111,111,32,108,111,110,103,10]:=by unfold iV;rw[if_pos h]
theorem afQ (t:Bs):0<(iV t).length:=by
 unfold iV;split
 ·simp
 ·simp[xZ];omega
theorem Uu:∀n:Nat,(10:UInt8) ∉ Go.Lib.decDigits n:=by
 intro n;induction n using Nat.strongRecOn with
 | ind n ih =>
  have hd:∀k,k<10→(10:UInt8)≠UInt8.ofNat (48+k):=by decide
  rw[Go.Lib.decDigits];split
  ·rename_i h;simp only[List.mem_singleton];exact hd n h
  ·rename_i h;rw[List.mem_append,not_or];exact⟨ih (n / 10)<|by omega,by simp only[List.mem_singleton];exact hd (n % 10)<|by omega⟩
theorem avS (L:List ao):∃s,xZ L=s++[10]∧(10:UInt8) ∉ s:=by
 refine⟨_,rfl,?_⟩;have h1:=Uu<|stored L;have h2:=Uu (shown L).toNat;simp only[List.mem_append,not_or];exact⟨⟨⟨by decide,h1⟩,by decide⟩,h2⟩
theorem asw (d:aK)(l:Bs):∃s,(gr d l).2=s++[10]:=by
 have hd:∀(o:Option aK),∃s,(eu d o).2=s++[10]:=fun o=>by
  cases o with
  | none=>exact⟨[110,111],rfl⟩
  | some x=>exact⟨[111,107],rfl⟩
 have hi:∀(o:Option (List Int)),∃s,tM o=s++[10]:=fun o=>by
  cases o with
  | none=>exact⟨[110,111],rfl⟩
  | some x=>exact⟨[105,115,32]++qy x,rfl⟩
 have hw:∃s:Bs,([119,104,97,116,10]:Bs)=s++[10]:=⟨[119,104,97,116],rfl⟩;unfold gr;split
 ·split
  ·exact⟨lT d++[101,110,100],by simp⟩
  ·exact hw
 ·repeat (first|exact hd _|exact hi _|exact hw|split)
 ·repeat (first|exact hd _|exact hi _|exact hw|split)
 ·exact hw
theorem aaS:∀(l:List Bs) (s:aK×Bs),(s.2=[]∨∃a,s.2=a++[10])→((lR l s).2=[]∨∃a,(lR l s).2=a++[10])
 | [],_,h=>h
 | x::r,s,_=>by
  rw[lR];refine aaS r _<|.inr ?_;obtain⟨q,hq⟩:=asw s.1 x;exact⟨s.2++q,by simp[hq]⟩
theorem aum (x:Bs):(kM x).2=[]∨∃a,(kM x).2=a++[10]:=aaS _ _<|.inl rfl
theorem AJ {d:aK}{o:Option aK}(hd:aS d=true)(ho:∀x,o=some x→aS x=true):aS (eu d o).1=true:=by
 cases o with
 | none=>exact hd
 | some x=>exact ho x rfl
theorem Re {d:aK}(hd:aS d=true)(l:Bs):aS (gr d l).1=true:=by
 unfold gr;split
 ·split<;>exact hd
 ·repeat (first|exact hd|exact AJ hd (fun x h=>J5 h)|exact AJ hd (fun x h=>SF h)|exact AJ hd (fun x h=>Cm h)|exact AJ hd (fun x h=>Sj h)|split)
 ·repeat (first|exact hd|exact AJ hd (fun x h=>J5 h)|exact AJ hd (fun x h=>Ln h)|split)
 ·exact hd
theorem aaU:∀(l:List Bs) (s:aK×Bs),aS s.1=true→aS (lR l s).1=true
 | [],_,h=>h
 | x::r,s,h=>by
  rw[lR];exact aaU r _<|Re h x
theorem asy {a b:Bs}(h:(10:UInt8) ∉ a):me (a++10::b)=a::me b:=by
 unfold me;rw[Cz,yr 10 a h];cases e:cutAt 10 b with
 | nil=>exact absurd e<|CA 10 b
 | cons w ws=>simp
theorem Sa {d:aK}(hd:aS d=true){p:Bs}{l:List Int}(h:qu d p=some l):jz l=true:=by
 unfold qu at h;split at h
 ·cases h
 ·split at h
  ·cases h
  ·unfold KK at h;split at h
   ·rename_i h1;cases h;simp only[Bool.and_eq_true]at h1;exact Zt (gz.1 hd).2.vh h1.2
   ·cases h
theorem Su {d:aK}{n p:Bs}{l:List Int}(h:fD d n p=some l):jz l=true:=by
 obtain⟨d1,h1,h2⟩:=ad4 h;exact Sa (Cm h1) h2
theorem LW {l:List Int}(h:jz l=true):∀x,x ∈ l→0≤x∧x≤255:=by
 simp only[jz,Bool.and_eq_true,List.all_eq_true]at h;intro x hx;have:=h.1 x hx;simp only[mS,ff,Bool.and_eq_true,decide_eq_true_eq]at this;omega
theorem Ai (l:List Int):(qy l).length=l.length:=by simp[qy]
theorem YO {o:Option (List Int)}(h:∀l,o=some l→jz l=true):(tM o).length≤36:=by
 cases o with
 | none=>decide
 | some l =>
  have h1:=rK<|h l rfl;simp only[tM,List.length_append,List.length_cons,List.length_nil,Ai];omega
theorem Uy (d:aK)(o:Option aK):(eu d o).2.length≤36:=by cases o<;>simp[eu]
theorem wa {d:aK}(hd:aS d=true)(l:Bs):(gr d l).2.length≤3004:=by
 have hq:∀{n:Nat},n≤36→n≤3004:=fun h=>by omega
 have hw:(([119,104,97,116,10]:Bs)).length≤3004:=by decide
 unfold gr;split
 ·split
  ·have:=CI d;simp only[List.length_append,List.length_cons,List.length_nil];omega
  ·exact hw
 ·repeat (first|exact hw|exact hq (Uy _ _)|exact hq (YO<|fun _ h=>Sa hd h)|split)
 ·repeat (first|exact hw|exact hq (Uy _ _)|exact hq (YO<|fun _ h=>Su h)|split)
 ·exact hw
theorem aaR:∀(l:List Bs) (s:aK×Bs),aS s.1=true→(lR l s).2.length≤s.2.length+3004*l.length
 | [],_,_=>by simp[lR]
 | x::r,s,h=>by
  have h1:=aaR r ((gr s.1 x).1,s.2++(gr s.1 x).2)<|Re h x;have h2:=wa h x;rw[lR];simp only[List.length_append,List.length_cons]at h1 ⊢;omega
theorem Um (c:UInt8):∀s:Bs,(cutAt c s).length≤s.length+1
 | []=>by simp[cutAt]
 | x::r=>by
  have ih:=Um c r;simp only[cutAt];split
  ·simp;omega
  ·split
   ·simp
   ·rename_i e;rw[e]at ih;simp at ih ⊢;omega
theorem asz (s:Bs):(me s).length≤s.length:=by
 have:=Um 10 s;simp only[me,List.length_dropLast];omega
theorem CH {α:Type}{s:List α}{f k:Nat}{z:α}(hf:f≤k)(hz:s[k]? = some z):s.drop f=(s.drop f).take (k-f)++z::s.drop (k+1):=by
 have h1:(s.drop f).drop (k-f)=s.drop k:=by rw[List.drop_drop];congr 1;omega
 have h2:s.drop k=z::s.drop (k+1):=by
  obtain⟨hk,rfl⟩:=List.getElem?_eq_some_iff.1 hz;exact List.drop_eq_getElem_cons hk
 rw[←h2,←h1,List.take_append_drop]
theorem UA {α:Type}{s:List α}{f k:Nat}{z:α}(hf:f≤k)(hz:s[k]? = some z):(s.drop f).take (k+1-f)=(s.drop f).take (k-f)++[z]:=by
 have h1:(s.drop f)[k-f]? = some z:=by rw[List.getElem?_drop,show f+(k-f)=k by omega];exact hz
 rw[show k+1-f=k-f+1 by omega,gZ h1]
structure qB (c:UInt8) (s:Bs) (xs:List Bs) (f k:Nat):Prop where
 hf:f≤k
 hk:k≤s.length
 eq:cutAt c s=xs++cutAt c (s.drop f)
 no:c ∉ (s.drop f).take (k-f)
section
variable {c:UInt8} {s:Bs} {xs:List Bs} {f k:Nat}
theorem qB.zero:qB c s [] 0 0:=⟨Nat.le_refl _,Nat.zero_le _,by simp,by simp⟩
theorem qB.skip (h:qB c s xs f k){z:UInt8}(hz:s[k]? = some z)(hn:¬z=c):qB c s xs f (k+1):=by
 refine⟨Nat.le_succ_of_le h.hf,(List.getElem?_eq_some_iff.1 hz).1,h.eq,?_⟩;rw[UA h.hf hz,List.mem_append,not_or];exact⟨h.no,fun e=>hn (List.mem_singleton.1 e).symm⟩
theorem qB.cut (h:qB c s xs f k)(hz:s[k]? = some c):qB c s (xs++[(s.drop f).take<|k-f]) (k+1) (k+1):=by
 refine⟨Nat.le_refl _,(List.getElem?_eq_some_iff.1 hz).1,?_,by simp⟩;rw[h.eq]
 conv=>lhs;rw[CH h.hf hz,Cz,yr c _ h.no]
 simp
theorem qB.done (h:qB c s xs f k)(hk:s.length≤k):cutAt c s=xs++[s.drop f]:=by
 have hn:=h.no;rw[List.take_of_length_le<|by rw[List.length_drop];omega]at hn;rw[h.eq,yr c _ hn]
end
structure ry (s r:Bs) (d:aK) (o:Bs):Prop where
 eq:kM s=lR (me r) (d,o)
 v:aS d=true
 len:o.length+3004*r.length≤3004*s.length
section
variable {s r a b o:Bs} {d:aK}
theorem ry.zero:ry s s ⟨[],[],[]⟩ []:=⟨rfl,by decide,by simp⟩
theorem ry.line (h:ry s r d o)(hr:r=a++10::b)(hn:(10:UInt8) ∉ a):ry s b (gr d a).1 (o++(gr d a).2):=by
 subst hr;refine⟨?_,Re h.v a,?_⟩
 ·rw[h.eq,asy hn,lR]
 ·have h1:=h.len;have h2:=wa h.v a;simp only[List.length_append,List.length_cons]at h1 ⊢;omega
theorem ry.done (h:ry s r d o)(hn:(10:UInt8) ∉ r):kM s=(d,o):=by rw[h.eq,Rf hn];rfl
end
def bD (d:aK):List Bs→aK×Bs
 | [w]=>if w=wL then(d,lT d++[101,110,100,10]) else(d,[119,104,97,116,10])
 | [w,p]=>if w=wD then eu d (bV d ⟨1,p,[]⟩) else if w=wR then eu d (bV d ⟨3,p,[]⟩) else if w=wS then eu d (cT d p) else if w=wB then eu d (dC d p) else if w=wX then eu d (dq d p)
  else if w=wQ then(d,tM<|qu d p) else(d,[119,104,97,116,10])
 | [w,p,q]=>if w=wW then eu d (bV d ⟨2,p,kD q⟩) else if w=wC then eu d (dj d p q) else if w=wQ then(d,tM<|fD d q p) else(d,[119,104,97,116,10])
 | _=>(d,[119,104,97,116,10])
theorem Rc (d:aK)(l:Bs):gr d l=bD d (cutAt 32 l):=rfl
def df (ws:List Bs)(w:Bs)(n:Nat):Bool:=decide (ws[0]? = some w)&&decide (ws.length=n)
theorem xF {ws:List Bs}{z w:Bs}{n:Nat}(h:ws[0]? = some z):df ws w n=(decide (z=w)&&decide (ws.length=n)):=by simp[df,h]
theorem pw {ws:List Bs}{z w:Bs}{n:Nat}(h:ws[0]? = some z)(hn:¬z=w):false=df ws w n:=by simp[xF h,hn]
theorem pv {ws:List Bs}{z w:Bs}{n:Nat}(h:ws[0]? = some z)(hn:z=w){m:Int}(hm:m=n):decide ((ws.length:Int)=m)=df ws w n:=by
 subst hm;rw[xF h,hn,Bool.eq_iff_iff];simp;omega
theorem Ak {ws:List Bs}{w p:Bs}(h:df ws w 2=true)(h1:ws[1]? = some p):ws=[w,p]:=by
 simp only[df,Bool.and_eq_true,decide_eq_true_eq]at h;match ws,h,h1 with
 | [a,b],h,h1=>simp at h h1;simp[h,h1]
theorem Kz {ws:List Bs}{w p q:Bs}(h:df ws w 3=true)(h1:ws[1]? = some p)(h2:ws[2]? = some q):ws=[w,p,q]:=by
 simp only[df,Bool.and_eq_true,decide_eq_true_eq]at h;match ws,h,h1,h2 with
 | [a,b,c],h,h1,h2=>simp at h h1 h2;simp[h,h1,h2]
section
variable {d:aK} {ws:List Bs} {p q:Bs}
theorem Ru (h:df ws wD 2=true)(h1:ws[1]? = some p):bD d ws=eu d (bV d ⟨1,p,[]⟩):=by rw[Ak h h1];simp[bD]
theorem Ry (h:df ws wR 2=true)(h1:ws[1]? = some p):bD d ws=eu d (bV d ⟨3,p,[]⟩):=by rw[Ak h h1];simp[bD,wR,wD]
theorem Rz (h:df ws wS 2=true)(h1:ws[1]? = some p):bD d ws=eu d (cT d p):=by rw[Ak h h1];simp[bD,wS,wR,wD]
theorem Rs (h:df ws wB 2=true)(h1:ws[1]? = some p):bD d ws=eu d (dC d p):=by rw[Ak h h1];simp[bD,wB,wS,wR,wD]
theorem Rv (h:df ws wX 2=true)(h1:ws[1]? = some p):bD d ws=eu d (dq d p):=by rw[Ak h h1];simp[bD,wX,wB,wS,wR,wD]
theorem JK (h:df ws wW 3=true)(h1:ws[1]? = some p)(h2:ws[2]? = some q):bD d ws=eu d (bV d ⟨2,p,kD q⟩):=by rw[Kz h h1 h2];simp[bD]
theorem Rt (h:df ws wC 3=true)(h1:ws[1]? = some p)(h2:ws[2]? = some q):bD d ws=eu d (dj d p q):=by rw[Kz h h1 h2];simp[bD,wC,wW]
theorem Rw (h:df ws wQ 2=true)(h1:ws[1]? = some p):bD d ws=(d,tM<|qu d p):=by rw[Ak h h1];simp[bD,wQ,wX,wB,wS,wR,wD]
theorem Rx (h:df ws wQ 3=true)(h1:ws[1]? = some p)(h2:ws[2]? = some q):bD d ws=(d,tM<|fD d q p):=by rw[Kz h h1 h2];simp[bD,wQ,wC,wW]
theorem Zx:bD d [wL]=(d,lT d++[101,110,100,10]):=by simp[bD]
theorem Zz (hl:df ws wL 1=false)(h1:df ws wD 2=false)(h2:df ws wW 3=false)(h3:df ws wR 2=false)(h4:df ws wS 2=false)(h5:df ws wB 2=false)(h6:df ws wX 2=false)(h7:df ws wC 3=false)(h8:df ws wQ 2=false)(h9:df ws wQ 3=false) :
  bD d ws=(d,[119,104,97,116,10]):=by
 match ws with
 | []=>rfl
 | [w]=>simp[df]at hl;simp[bD,hl]
 | [w,a]=>simp[df]at h1 h3 h4 h5 h6 h8;simp[bD,h1,h3,h4,h5,h6,h8]
 | [w,a,b]=>simp[df]at h2 h7 h9;simp[bD,h2,h7,h9]
 | _::_::_::_::_=>rfl
end
theorem Uk {c:UInt8}:∀{s w:Bs},cutAt c s=[w]→s=w
 | [],w,h=>by simpa [cutAt] using h
 | x::r,w,h=>by
  simp only[cutAt]at h;split at h
  ·simp[CA]at h
  ·split at h
   ·rename_i e;exact absurd e<|CA c r
   ·rename_i u us e;simp only[List.cons.injEq]at h;rw[h.2]at e;rw[←h.1,Uk e]
theorem ae1 {s:Bs}(h:¬s=wL):df (cutAt 32 s) wL 1=false:=by
 cases e:df (cutAt 32 s) wL 1 with
 | false=>rfl
 | true =>
  simp only[df,Bool.and_eq_true,decide_eq_true_eq]at e;obtain⟨w,hw⟩:=List.length_eq_one_iff.1 e.2;rw[hw]at e;simp at e;subst e;exact absurd (Uk hw) h
theorem ae2:cutAt 32 wL=[wL]:=by decide
theorem Hu (s:Bs):0<(cutAt 32 s).length:=by
 cases e:cutAt 32 s with
 | nil=>exact absurd e<|CA 32 s
 | cons _ _=>simp
theorem ov (d:aK)(o:Option aK):(eu d o).1=if o.isSome then o.getD ⟨[],[],[]⟩ else d:=by cases o<;>simp[eu]
theorem ow (d:aK)(o:Option aK):(eu d o).2=if o.isSome then[111,107,10] else[110,111,10]:=by cases o<;>simp[eu]
theorem av_ {z:UInt8}(h:(z.toNat:Int)=32):z=32:=UInt8.toNat_inj.1 (by have:(32:UInt8).toNat=32:=rfl;omega)
theorem awa {z:UInt8}(h:¬(z.toNat:Int)=32):¬z=32:=fun e=>h (by rw[e];rfl)
theorem Km {z:UInt8}(h:(z.toNat:Int)=10):z=10:=UInt8.toNat_inj.1 (by have:(10:UInt8).toNat=10:=rfl;omega)
theorem SK {z:UInt8}(h:¬(z.toNat:Int)=10):¬z=10:=fun e=>h (by rw[e];rfl)
theorem TN {s:Bs}{k:Nat}{z:UInt8}(h:s[k]? = some z):kD (s.take<|k+1)=kD (s.take k)++[(z.toNat:Int)]:=by simp[kD,gZ h]
theorem TM (s:Bs):(kD s).length=s.length:=by simp[kD]
theorem avZ {l:List Int}{k:Nat}{z:Int}(h:l[k]? = some z):qy (l.take<|k+1)=qy (l.take k)++[UInt8.ofNat z.toNat]:=by simp[qy,gZ h]
theorem iO {n:Nat}(h:n<1000000):(Go.Lib.decDigits n).length≤6:=by
 have hs:∀(k m:Nat),m<10 ^ (k+1)→(Go.Lib.decDigits m).length≤k+1:=by
  intro k;induction k with
  | zero=>intro m hm;rw[Go.Lib.decDigits,dif_pos<|by omega];simp
  | succ k ih =>
   intro m hm;rw[Go.Lib.decDigits];split
   ·simp
   ·have:=ih (m / 10) (by rw[Nat.pow_succ]at hm;omega);simp;omega
 exact hs 5 n (by omega)
theorem ae9 {n:Int}(h0:0≤n)(h:n<10):[UInt8.ofNat (48+n).toNat]=Go.Lib.decDigits n.toNat:=by
 rw[Go.Lib.decDigits,dif_pos<|by omega];congr 2;omega
theorem LB {n:Int}(h:¬n<10):Go.Lib.decDigits (n / 10).toNat++[UInt8.ofNat (48+n % 10).toNat]=Go.Lib.decDigits n.toNat:=by
 conv=>rhs;rw[Go.Lib.decDigits,dif_neg<|by omega]
 congr 3<;>omega
theorem avw {d:aK}(h:aS d=true):lT d=mN d.store d.tree++qx d.store d.aw:=by simp[lT,h]
theorem SH {d:aK}(h:aS d=true):(∀x,x ∈ d.tree→dh d.store x.ids=true)∧∀s,s ∈ d.aw→∀x,x ∈ s.tree→dh d.store x.ids=true:=by
 have hi:=(gz.1 h).2.ids;exact⟨hi d.tree<|by simp[eQ],fun s hs=>hi s.tree<|by simp[eQ];exact .inr ⟨s,hs,rfl⟩⟩
theorem kK {ws:List Bs}{w:Bs}{n:Nat}(h:df ws w n=true):ws.length=n:=by simp only[df,Bool.and_eq_true,decide_eq_true_eq]at h;exact h.2
theorem YL {x:Int}(h:0≤x∧x≤255):∃c:UInt8,x=(c.toNat:Int):=by
 refine⟨UInt8.ofNat x.toNat,?_⟩;rw[UInt8.toNat_ofNat_of_lt'<|show x.toNat<256 by omega];omega
theorem abv {l:List Int}{k:Nat}{c:UInt8}(h:l[k]? = some (c.toNat:Int)):qy (l.take<|k+1)=qy (l.take k)++[c]:=by rw[avZ h];simp
theorem auY {d:aK}(hd:aS d=true){p:Bs}(h:(gv d.tree p).length=0):qu d p=none:=by
 rw[Ke hd,n4,List.eq_nil_of_length_eq_zero h]
theorem auX {d:aK}(hd:aS d=true){p:Bs}{x:aj}(h:(gv d.tree p)[0]? = some x):qu d p=some (load d.store x.ids)∧dh d.store x.ids=true:=by
 refine⟨?_,(SH hd).1 x<|Y7<|List.mem_of_getElem? h⟩;rw[Ke hd,n4];cases e:gv d.tree p with
 | nil=>rw[e]at h;cases h
 | cons o r=>rw[e]at h;cases h;rfl
theorem SC {d:aK}(hd:aS d=true):[115,116,111,114,101,100,32]++Go.Lib.decDigits (iz d).toNat++[32,111,102,32]++Go.Lib.decDigits (iX d).toNat++[10]=xZ d.store:=by
 simp[xZ,iz,iX,hd]
theorem QK {ws:List Bs}{z:Bs}(h:ws[0]? = some z)(hn:¬z=[114,101,97,100]):false=(df ws wQ 2||df ws wQ 3):=by rw[xF h,xF h];simp[wQ,hn]
theorem QL {ws:List Bs}{z:Bs}(h:ws[0]? = some z)(hn:z=[114,101,97,100])(hl:ws.length=2):true=(df ws wQ 2||df ws wQ 3):=by rw[xF h,xF h];simp[wQ,hn,hl]
theorem QJ {ws:List Bs}{z:Bs}(h:ws[0]? = some z)(hn:z=[114,101,97,100])(hl:¬ws.length=2){m:Int}(hm:m=3):decide ((ws.length:Int)=m)=(df ws wQ 2||df ws wQ 3):=by
 subst hm;rw[xF h,xF h,Bool.eq_iff_iff];simp[wQ,hn,hl];omega
theorem YN {a b:Bool}(h:(a||b)=false):a=false∧b=false:=by simpa using h
theorem asY {d:aK}{ws:List Bs}(h:(df ws wQ 2||df ws wQ 3)=true):(bD d ws).1=d:=by
 have h:df ws wQ 2=true∨df ws wQ 3=true:=by simpa using h
 rcases h with h|h
 ·have hl:=kK h;match ws,hl,h with
  | [a,b],_,h=>rw[Ak h rfl,show b=b from rfl];simp[bD,wQ,wX,wB,wS,wR,wD]
 ·have hl:=kK h;match ws,hl,h with
  | [a,b,c],_,h=>rw[Kz h rfl rfl];simp[bD,wQ,wC,wW]
theorem ati {s:Bs}{c:UInt8}{f k:Nat}{z:UInt8}(hf:f≤k)(hz:s[k]? = some z)(hn:¬z=c)(h:c ∉ (s.drop f).take (k-f)):c ∉ (s.drop f).take (k+1-f):=by
 rw[UA hf hz,List.mem_append,not_or];exact⟨h,fun e=>hn (List.mem_singleton.1 e).symm⟩
theorem RB {a b:Nat}{m:Int}(hm:0<m)(h:a+b*m.toNat≤415):a≤415∧b≤415:=by
 have h1:b*1≤b*m.toNat:=Nat.mul_le_mul_left b (by omega);omega
theorem ZB {a b:Nat}{m:Int}(hm:0<m)(h:a+b*m.toNat≤415):a+(b+b)*(m / 2).toNat≤415∧(m % 2=1→a+b+(b+b)*(m / 2).toNat≤415):=by
 have h1:(b+b)*(m / 2).toNat=b*(2*(m / 2).toNat):=by rw[←Nat.mul_assoc,Nat.mul_two]
 have h2:b*(2*(m / 2).toNat)≤b*m.toNat:=Nat.mul_le_mul_left b (by omega);refine⟨by omega,fun h3=>?_⟩;have h4:b*(2*(m / 2).toNat+1)≤b*m.toNat:=Nat.mul_le_mul_left b (by omega);rw[Nat.mul_add]at h4;omega
def wv (t x:Bs):Prop:=(x=[]∧(10:UInt8) ∉ t)∨∃a b,t=a++10::b∧x=a++[10]∧(10:UInt8) ∉ b
theorem aeR {t:Bs}{k:Nat}(h:t[k]? = some 10)(hn:(10:UInt8) ∉ t.drop (k+1)):wv t (t.take<|k+1):=by
 refine .inr ⟨t.take k,t.drop<|k+1,?_,gZ h,hn⟩;have:=CH (s:=t) (f:=0) (Nat.zero_le _) h;simpa using this
theorem aeS {t:Bs}{k:Nat}{z:UInt8}(h:t[k]? = some z)(hz:¬z=10)(hn:(10:UInt8) ∉ t.drop (k+1)):(10:UInt8) ∉ t.drop k:=by
 obtain⟨hk,rfl⟩:=List.getElem?_eq_some_iff.1 h;rw[List.drop_eq_getElem_cons hk,List.mem_cons,not_or];exact⟨fun e=>hz e.symm,hn⟩
theorem wv.exec {t x:Bs}(h:wv t x)(hl:t.length≤400):iV x=iV t:=by
 rcases h with ⟨rfl,hn⟩|⟨a,b,rfl,rfl,hn⟩
 ·exact afN hn hl
 ·exact afM hn hl
theorem wv.len {t x:Bs}(h:wv t x):x.length≤t.length:=by
 rcases h with ⟨rfl,_⟩|⟨a,b,rfl,rfl,_⟩<;>simp
theorem wv.end {t x:Bs}(h:wv t x):x=[]∨∃a,x=a++[10]:=by
 rcases h with ⟨rfl,_⟩|⟨a,b,rfl,rfl,_⟩
 ·exact .inl rfl
 ·exact .inr ⟨a,rfl⟩
theorem asB {s p q:Bs}{k:Nat}(hs:s=p++(q++[10]))(hq:(10:UInt8) ∉ q)(h1:p.length≤k)(h2:k≤p.length+q.length)(h0:0<k)(hz:s[k-1]? = some 10):k=p.length:=by
 rcases Nat.lt_or_ge (k-1) p.length with h|h
 ·omega
 ·subst hs;rw[List.getElem?_append_right h,List.getElem?_append_left<|by omega]at hz;exact absurd (List.mem_of_getElem? hz) hq
theorem asC {s p q:Bs}{k:Nat}{z:UInt8}(hs:s=p++(q++[10]))(hp:p=[]∨∃a,p=a++[10])(h1:p.length≤k)(h0:0<k)(hz:s[k-1]? = some z)(hn:¬z=10):p.length≤k-1:=by
 rcases Nat.lt_or_ge (k-1) p.length with h|h
 ·rcases hp with rfl|⟨a,rfl⟩
  ·simp
  ·have hk:k-1=a.length:=by simp at h h1;omega
   subst hs;rw[List.getElem?_append_left h,hk]at hz;simp at hz;exact absurd hz.symm hn
 ·exact h
def sW (d x:aK)(ok:Bool):aK×Bs:=if ok then(x,[111,107,10]) else(d,[110,111,10])
theorem CE (d:aK)(o:Option aK):eu d o=sW d (o.getD ⟨[],[],[]⟩) o.isSome:=by cases o<;>rfl
theorem vX {ws:List Bs}{w:Bs}{n:Nat}(h:ws.length=n):df (w::ws) w (n+1)=true:=by simp[df,h]
def sJ (d:aK):List Bs→Option (List Int)
 | [p]=>qu d p
 | [p,n]=>fD d n p
 | _=>none
theorem Zy {d:aK}{ws:List Bs}(h:ws.length=1∨ws.length=2):bD d (wQ::ws)=(d,tM<|sJ d ws):=by
 match ws,h with
 | [p],_=>exact Rw (vX rfl) rfl
 | [p,n],_=>exact Rx (vX rfl) rfl rfl
theorem auR {d:aK}{ws:List Bs}{p:Bs}(hl:ws.length=1)(h0:ws[0]? = some p):sJ d ws=qu d p:=by
 match ws,hl,h0 with
 | [a],_,h0=>cases h0;rfl
theorem auS {d:aK}{ws:List Bs}{p n:Bs}(hl:ws.length=2)(h0:ws[0]? = some p)(h1:ws[1]? = some n):sJ d ws=fD d n p:=by
 match ws,hl,h0,h1 with
 | [a,b],_,h0,h1=>cases h0;cases h1;rfl
theorem auW {d:aK}(hd:aS d=true){T:Nd}(hT:ci T d.tree)(p:Bs):qt d.store T p=qu d p:=by rw[aaK (SH hd).1 hT,Ke hd]
theorem auT {d:aK}(hd:aS d=true){ws:List Bs}{l:List Int}(h:sJ d ws=some l):jz l=true:=by
 match ws,h with
 | [p],h=>exact Sa hd h
 | [p,n],h=>exact Su h
structure iv where
 word:Bs
 least:Nat
 sE:Nat
 f:Nat
def iv.ok (c:iv)(ws:List Bs):Bool:=decide (ws[0]? = some c.word)&&decide (c.least≤ws.length-1∧ws.length-1≤c.sE)
def sY (a b c d e f g h i:Nat):List iv:=[⟨wD,1,1,a⟩,⟨wW,2,2,b⟩,⟨wR,1,1,c⟩,⟨wS,1,1,d⟩,⟨wB,1,1,e⟩,⟨wX,1,1,f⟩,⟨wC,2,2,g⟩,⟨wQ,1,2,h⟩,⟨wL,0,0,i⟩]
theorem wT {ws:List Bs}{c:iv}(hc:c.least=c.sE)(h:c.ok ws=false)(h0:0<ws.length):df ws c.word (c.sE+1)=false:=by
 simp only[iv.ok,df,Bool.and_eq_false_iff,decide_eq_false_iff_not]at h ⊢;rcases h with h|h
 ·exact .inl h
 ·exact .inr (by omega)
theorem aeC {a b c d e f g h i:Nat}{ws:List Bs}{k:aK}(h0:0<ws.length)(hn:∀x,x ∈ sY a b c d e f g h i→x.ok ws=false):bD k ws=(k,[119,104,97,116,10]):=by
 have m:=fun x hx=>hn x hx;simp only[sY,List.mem_cons,List.not_mem_nil,or_false,forall_eq_or_imp,forall_eq]at m;obtain⟨m1,m2,m3,m4,m5,m6,m7,m8,m9⟩:=m
 have q:∀n,1≤n→n≤2→df ws wQ (n+1)=false:=fun n h1 h2=>by
  simp only[iv.ok,df,Bool.and_eq_false_iff,decide_eq_false_iff_not]at m8 ⊢;rcases m8 with m8|m8
  ·exact .inl m8
  ·exact .inr (by omega)
 exact Zz (wT rfl m9 h0) (wT rfl m1 h0) (wT rfl m2 h0) (wT rfl m3 h0) (wT rfl m4 h0) (wT rfl m5 h0) (wT rfl m6 h0) (wT rfl m7 h0) (q 1 (by omega)<|by omega) (q 2 (by omega)<|by omega)
theorem aeD {l:List iv}{k:Nat}{c:iv}{ws:List Bs}(hz:l[k]? = some c)(h:∀j x,j<k→l[j]? = some x→x.ok ws=false)(hc:c.ok ws=false):∀j x,j<k+1→l[j]? = some x→x.ok ws=false:=by
 intro j x hj hx;rcases Nat.lt_or_ge j k with h1|h1
 ·exact h j x h1 hx
 ·obtain rfl:j=k:=by omega
  rw[hz]at hx;cases hx;exact hc
theorem aez {l:List iv}{k:Nat}{ws:List Bs}(hk:l.length≤k)(h:∀j x,j<k→l[j]? = some x→x.ok ws=false):∀x,x ∈ l→x.ok ws=false:=by
 intro x hx;obtain⟨j,hj⟩:=List.getElem?_of_mem hx;exact h j x (by have:=(List.getElem?_eq_some_iff.1 hj).1;omega) hj
theorem RY {c:iv}{ws:List Bs}{z:Bs}(h:ws[0]? = some z)(hn:¬c.word=z):false=c.ok ws:=by
 simp only[iv.ok,h];rw[decide_eq_false<|fun e=>hn (Option.some.inj e).symm];rfl
theorem RW {c:iv}{ws:List Bs}(hn:¬c.least≤ws.length-1):false=c.ok ws:=by simp[iv.ok,hn]
theorem RX {c:iv}{ws:List Bs}{z:Bs}(h:ws[0]? = some z)(hw:c.word=z)(hl:c.least≤ws.length-1){m:Int}(hm:m=((ws.length-1:Nat):Int)):decide (m≤(c.sE:Int))=c.ok ws:=by
 subst hm;simp only[iv.ok,h,hw,hl,true_and,decide_true,Bool.true_and];rw[Bool.eq_iff_iff];simp
theorem at5 {c:iv}{ws:List Bs}(h:c.ok ws=true):ws=c.word::ws.drop 1∧c.least≤(ws.drop 1).length∧(ws.drop 1).length≤c.sE:=by
 simp only[iv.ok,Bool.and_eq_true,decide_eq_true_eq]at h;match ws,h with
 | w::r,h=>simp at h ⊢;exact⟨h.1,h.2⟩
theorem aq6 {s:Bs}{c:UInt8}{m:Nat}(h:s.findIdx? (jS c)=some m):s=s.take m++c::s.drop (m+1)∧c ∉ s.take m:=by
 obtain⟨hm,h1,h2⟩:=List.findIdx?_eq_some_iff_getElem.1 h;have hc:s[m]=c:=by simpa [jS] using h1
 refine⟨?_,fun xf=>?_⟩
 ·have:=CH (s:=s) (f:=0) (k:=m) (z:=c) (Nat.zero_le _) (by rw[List.getElem?_eq_getElem hm,hc]);simpa using this
 ·obtain⟨j,hj,he⟩:=List.mem_iff_getElem.1 xf;rw[List.length_take]at hj;have:=h2 j (by omega);rw[List.getElem_take]at he;simp[jS,he]at this
theorem aq7 {s:Bs}{c:UInt8}(h:s.findIdx? (jS c)=none):c ∉ s:=by
 intro xf;have:=List.findIdx?_eq_none_iff.1 h c xf;simp[jS]at this
theorem afO (t:Bs):(iV t).length≤1300000:=by
 rcases Nat.lt_or_ge 400 t.length with h|h
 ·rw[HF h];decide
 ·rw[HE h];have h1:=aaR (me t) (⟨[],[],[]⟩,[]) (by decide);have h2:=asz t;have hv:aS (kM t).1=true:=aaU _ _ (by decide);have h3:=sZ (kM t).1;have h4:=iO (n:=(iz (kM t).1).toNat) (by omega);have h5:=iO (n:=(iX (kM t).1).toNat) (by omega);have h6:(kM t).2.length≤3004*t.length:=by
   have:(kM t).2.length≤0+3004*(me t).length:=h1;have:=Nat.mul_le_mul_left 3004 h2;omega
  rw[←SC hv];simp only[List.length_append,List.length_cons,List.length_nil];omega
theorem awK (p q:Bs):(p++q).take ((((p++q).length:Nat):Int)-((q.length:Nat):Int)).toNat=p:=by
 rw[show((((p++q).length:Nat):Int)-((q.length:Nat):Int)).toNat=p.length by simp only[List.length_append];omega,List.take_left]
theorem UQ {t:Bs}{d:aK}{o:Bs}(h:t.length≤400)(e:kM t=(d,o)):iV t=o++xZ d.store:=by rw[HE h,e]
end Sp
namespace Fw
open Go
abbrev lu (b:Nat) (p:Value):Prop:=p= .pointer none∨p= .pointer (some ⟨b,3,none⟩)
section
variable {P:Program} {n:Nat} {ops:Array Oper} {Q:dp} {rest:List Oper} {L:br} {ds:List Deferred} {w w0:World} {G0:PH} {S:List Nat} {G:PH} {B:List aW}
variable {ty:TypeId} {ps:String} {af:Array Edge}
theorem Z0 (k:Nat)(H:Hp w0 G0 S w G B){d b:Nat}{p v v1 v2 v3:Value}{T:TypeId}{f:FuncId}{xs:List Operand}{ts:Array TypeId}(hF:∀(b:Nat) (w:World),w.cell? ⟨b,3,none⟩=some (.pointer none)→w.shape? b=some (T,5)→w.frozen? ⟨b,3,none⟩=false→Calls P f #[.pointer<|some ⟨b,3,none⟩] w fun e w'=>e= .returned (.tuple #[])∧w'=w.setCell ⟨b,3,none⟩ (.pointer<|some ⟨b,3,none⟩))
  (hU:∀(b:Nat) (w:World),w.cell? ⟨b,3,none⟩=some (.pointer<|some ⟨b,3,none⟩)→w.shape? b=some (T,5)→Calls P f #[.pointer<|some ⟨b,3,none⟩] w fun e w'=>e= .returned (.tuple #[])∧w'=w) (hp:lu b p)
  (mZ:∀args w,(callFunc f args).run P w= .ok (.enter f args) w) (hd:Nat.blt d n=true) (hx:lQ L xs=some [.pointer<|some ⟨b,3,none⟩]) (hk:nth B k=some (ai b<|cl [v1,v2,v3,p,v] T))
  (next:∀w',Hp w0 G0 S w' G (bq B k<|ai b<|cl [v1,v2,v3,.pointer<|some ⟨b,3,none⟩,v] T)→R P n ops Q rest ((d,.tuple #[])::L) ds w') :
  R P n ops Q (⟨some d,.call ⟨.value<|.func f,xs.toArray,ts⟩,ty,ps,af,none⟩::rest) L ds w:=by
 have mn:w.heap[b]? = some (cl [v1,v2,v3,p,v] T):=(H.own _<|eO hk).1;rcases hp with rfl|rfl
 ·refine o6 mZ hd hx (hF b w (by simp[World.cell?,mn]) (by simp[World.shape?,mn])<|by simp[World.frozen?,mn]) ?_;rintro _ w' ⟨rfl,rfl⟩;exact⟨_,rfl,next _ (Ae H hk (o:=3)<|.pointer<|some ⟨b,3,none⟩)⟩
 ·refine o6 mZ hd hx (hU b w (by simp[World.cell?,mn])<|by simp[World.shape?,mn]) ?_;rintro _ w' ⟨rfl,rfl⟩;refine⟨_,rfl,next _ ?_⟩;have:=H.upd hk rfl rfl rfl (Nat.le_refl _) (fun _ _ _=>rfl) (ai b<|cl [v1,v2,v3,.pointer<|some ⟨b,3,none⟩,v] T) mn (by simp[ai]) (by simp[ai]);exact this
theorem atq (k j:Nat)(H:Hp w0 G0 [] w G B)(hG:aE G0 w0){d b:Nat}{p v v1 v2 v3:Value}{T e:TypeId}{l:List UInt8}{f:FuncId}{xs:List Operand}{ts:Array TypeId}
  (hS:∀(B b g cap:Nat) (cur:Array Value) (l:List UInt8) (p v1 v2 v3:Value) (w:World),w.heap[b]? = some (cl [v1,v2,v3,p,.slice (some ⟨g,0,none⟩) l.length cap] T)→B≤g→w.heap[g]? = some (.cells cur e (0,0))→l.length≤cap→cap≤maxLen→cur.size=cap→cur.toList.take l.length=sC l→l≠[] →
   Calls P f #[.pointer<|some ⟨b,3,none⟩] w fun e w'=>e= .returned (str l)∧Go.RowKit.Below B w w')
  (h0:l≠[]) (mZ:∀args w,(callFunc f args).run P w= .ok (.enter f args) w) (hd:Nat.blt d n=true) (hx:lQ L xs=some [.pointer<|some ⟨b,3,none⟩]) (hk:nth B k=some (ai b<|cl [v1,v2,v3,p,v] T)) (hj:nth B j=some (buf e v l))
  (next:∀w',Hp w0 G0 [] w' G0 []→R P n ops Q rest ((d,str l)::L) ds w') :
  R P n ops Q (⟨some d,.call ⟨.value<|.func f,xs.toArray,ts⟩,ty,ps,af,none⟩::rest) L ds w:=by
 have mn:w.heap[b]? = some (cl [v1,v2,v3,p,v] T):=(H.own _<|eO hk).1;have c7:=fun c hc=>H.Vg hj (b:=c) hc;rcases (H.own _<|eO hj).1 with ⟨rfl,hl⟩|⟨g,cap,C,rfl,hg,h1,h2,h3,h4⟩
 ·exact absurd hl h0
 ·refine o6 mZ hd hx (hS w0.heap.size b g cap C l p v1 v2 v3 w mn (c7 g<|by rw[pO];simp) hg h1 h2 h3 h4 h0) ?_;rintro _ w' ⟨rfl,l3⟩;exact⟨_,rfl,next _ (H.below hG l3)⟩
theorem RJ {d:Option Nat}{f:FuncId}{xs:List Operand}{ts:Array TypeId}{vs:List Value}{C:Ending→World→Prop}(hf:∀args w,(callFunc f args).run P w= .ok (.enter f args) w)(hd:d=none∨∃t,d=some t∧Nat.blt t n=true)
  (hx:lQ L xs=some vs) (hc:Calls P f vs.toArray w C) (next:∀e w',C e w'→(∃v,e= .returned v∧R P n ops Q rest (match d with |none=>L|some t=>(t,v)::L) ds w')∨∃ch,e= .panicked ch∧N n Q (.panic ch) L ds w') :
  R P n ops Q (⟨d,.call ⟨.value<|.func f,xs.toArray,ts⟩,ty,ps,af,none⟩::rest) L ds w:=by
 intro a ha;refine wpList_plain rfl fun K hK=>?_;have e:xs.map a.eval=vs:=ha.uK xs vs hx;have hr:(execOp a.eval ⟨d,.call ⟨.value<|.func f,xs.toArray,ts⟩,ty,ps,af,none⟩).run P w= .ok (.enter f vs.toArray) w:=by
  simp[execOp,resolve,invoke,Act.eval,Deferred.ofValue,e,hf]
 unfold Oper.wp;rw[hr,Oper.upon_enter];refine hc.mono fun e w' hC=>?_;rcases next e w' hC with ⟨v,rfl,h⟩|⟨ch,rfl,h⟩
 ·refine hK _ _<|h _ ?_;rcases hd with rfl|⟨t,rfl,ht⟩
  ·exact ha
  ·exact ha.put ht v
 ·exact h a ha
theorem atN {x:Operand}{v:Value}(hx:od L x=some v)(hv:∀w,(execOp (fun _=>v) ⟨none,.panic x,ty,ps,af,none⟩).run P w= .halt (.panic v) w)(h:N n Q (.panic [{v,recovered:=false}]) L ds w) :
  R P n ops Q (⟨none,.panic x,ty,ps,af,none⟩::rest) L ds w:=by
 intro a ha;refine wpList_plain rfl fun K hK=>?_;have hr:(execOp a.eval ⟨none,.panic x,ty,ps,af,none⟩).run P w= .halt (.panic v) w:=by
  have:=hv w;simp only[execOp,ha.eval hx]at this ⊢;exact this
 unfold Oper.wp;rw[hr,Oper.upon_panic];exact h a ha
theorem ZY (k:Nat)(H:Hp w0 G0 S w G B){d:Nat}{s t e e2:TypeId}{x:Operand}{a:Option Addr}{m c:Nat}{cells:List Value}{xs:List UInt8}(hc:ay ue 1 G cells xs)(hs:P.underlying s=some (.slice e))(he:P.underlying e=some (.int .u8))(ht:P.underlying t=some .string)
  (hd:Nat.blt d n=true) (hx:od L x=some (.slice a m c)) (hk:nth B k=some (acc e2 1 (.slice a m c) m cells)) (hm:m=xs.length)
  (next:R P n ops Q rest ((d,str xs)::L) ds w):R P n ops Q (⟨some d,.convert s t x,ty,ps,af,none⟩::rest) L ds w:=by
 subst hm;refine cP hd (fun q hq=>?_) next
 have key:(convert s t<|.slice a xs.length c).run P w= .ok (str xs) w:=by
  rcases xs with _|⟨y,r⟩
  ·obtain⟨h0,h⟩:=(H.own _<|eO hk).1;rcases h with ⟨h,_⟩|⟨b',cap,C,h1,_⟩
   ·simp only[Value.slice.injEq]at h;obtain⟨rfl,_,rfl⟩:=h;exact run_convert_bytes_nil w s e hs he _ _ t ht
   ·simp only[Value.slice.injEq]at h1;obtain⟨rfl,_,rfl⟩:=h1;exact run_convert_bytes_back w s t e _ _ [] hs he ht (fun j hj=>by simp at hj)
  ·obtain⟨b,cap,C,h1,_⟩:=H.Cl hk (i:=0) (by simp);simp only[Value.slice.injEq]at h1;obtain⟨rfl,_,rfl⟩:=h1;refine run_convert_bytes_back w s t e _ _ (y::r) hs he ht<|fun j hj=>?_;rw[Addr.add_lit,Nat.zero_add];obtain⟨cs,c1,c2,c3⟩:=hc.get j ((y::r)[j]) (by simp);have c2:cs=[Value.int .u8 ((y::r)[j]).toNat]:=c2;subst c2;have:=c3 0 _ rfl;rw[Nat.mul_one,Nat.add_zero]at this;exact wM H hk this
 simp[execOp,hq.eval hx,key]
end
theorem ac6 {G:PH}{v:Value}{l:List Bs}(h:kA G v l){i:Nat}{w:Bs}(hw:l[i]? = some w):w.length≤16777216:=by
 obtain⟨a,c,rfl⟩:=h.shape;obtain⟨_,_,x,cs,_,hx,_,hE,_⟩:=h.at (List.getElem?_eq_some_iff.1 hw).1;rw[hw]at hx;cases hx;exact hE.2
theorem Hp.ads {w0 w:World}{G0:PH}{S:List Nat}{G:PH}{B:List aW}(H:Hp w0 G0 S w G B)(e:TypeId):Hp w0 G0 S w G (buf e (.slice none 0 0) []::B) :=
 H.add (Ext.refl w) _ (.inl ⟨rfl,rfl⟩) (by simp[wN]) (by simp[wN])
end Fw
namespace Fw
open Go Go.Conc
section
variable {P:Program} {n:Nat} {Q:dp} {L:br} {ds:List Deferred} {w:World} {l:List Oper}
variable {ty:TypeId} {ps:String} {af:Array Edge} {rest:List Nat} {i:Nat}
end
section
variable {w0 w:World} {G0 G:PH} {S:List Nat} {B:List aW}
variable {P:Program} {n:Nat} {Q:dp} {L:br} {ds:List Deferred} {l:List Oper} {ty:TypeId} {ps:String} {af:Array Edge} {rest:List Nat} {i:Nat}
end
section
variable {P:Program} {n:Nat} {ops:Array Oper} {Q:dp} {rest:List Oper} {L:br} {ds:List Deferred} {w w0:World} {G0:PH} {S:List Nat} {G:PH} {B:List aW}
variable {ty:TypeId} {ps:String} {af:Array Edge}
end
def CV {α:Type}(V:PH→α→Value→Prop)(G:PH)(vs:List Value)(xs:List α):Prop:=fC (fun v x=>V G x v) vs xs
section
variable {α:Type} {V:PH→α→Value→Prop} {G G':PH} {vs:List Value} {l:List α} {k:Nat} {v:Value} {x:α}
theorem CV.len (h:CV V G vs l):vs.length=l.length:=fC.len h
theorem CV.snoc (h:CV V G vs l)(hx:V G x v):CV V G (vs++[v]) (l++[x]):=fC.snoc h hx
theorem CV.mono (hm:∀x v,V G x v→V G' x v)(h:CV V G vs l):CV V G' vs l:=by
 induction h with
 | nil=>exact .nil
 | cons h _ ih=>exact .cons (hm _ _ h) ih
end
def auv:PH→ga→Value→Prop:=fun G x v=>∃cs,v= .agg cs.toArray∧tY G x cs
class GZ {α:Type} (V:PH→α→Value→Prop):Prop where
 up:∀{G G':PH} {x:α} {v:Value},an G G'→V G x v→V G' x v
theorem CV.up {α:Type}{V:PH→α→Value→Prop} [GZ V] {G G':PH}{vs:List Value}{l:List α}(h:CV V G vs l)(hle:an G G'):CV V G' vs l:=h.mono<|fun _ _=>GZ.up hle
instance:GZ auv:=⟨fun hle ⟨cs,e,hE⟩=>⟨cs,e,ik.up (E:=tY) hle hE⟩⟩
def Td (n:Nat)(ds:List Deferred)(Lf:br)(J:br→World→Prop)(Q:dp):dp
 | .normal,a,w=>∃M,et n (M++Lf) ds a∧J M w
 | e,a,w=>Q e a w
theorem adl {P:Program}{n:Nat}{Q:dp}{L:br}{ds:List Deferred}{w:World}{x y:Code}(Lf:br)(J:br→World→Prop)(hf:Sub Lf L)(first:W P n (Td n ds Lf J Q) x L ds w)(second:∀M w,J M w→W P n Q y (M++Lf) ds w):W P n Q (.seq x y) L ds w :=
 ah (fun a ha=>have _:=hf;wp_mono (first a ha) (fun e a' w' hq=>by
  cases e with
  | normal=>obtain⟨M,hF,hJ⟩:=hq;exact second M w' hJ a' hF
  | _=>exact hq))
theorem Te {n:Nat}{Q:dp}{L:br}{ds:List Deferred}{w:World}{Lf:br}{J:br→World→Prop}{M:br}(hJ:J M w)(hM:Sub M L:=by (repeat (first|exact Sub.nil|refine Sub.cons rfl ?_)))(hf:Sub Lf L:=by (repeat (first|exact Sub.nil|refine Sub.cons rfl ?_))):N n (Td n ds Lf J Q) .normal L ds w :=
 fun _ ha=>⟨M,ha.sub<|hM.app hf,hJ⟩
end Fw
namespace Fw
open Go
def pQ:PH→Sp.iv→List Value→Prop:=fun _ x cs=>cs=[str x.word,.int .i64 (x.least:Int),.int .i64 (x.sE:Int),.func (.func x.f) #[] #[]]∧x.word.length≤16777216∧x.least≤2∧x.sE≤2
instance:ik pQ:=⟨fun _ h=>h⟩
def ac7 (w:World)(G:PH)(fp:List Nat)(ch:List PanicEntry)(φ:PH→Value→List aW→Prop)(ψ:PH→List aW→Prop):Ending→World→Prop :=
 fun e w'=>∃G' Bs,Hp w G fp w' G' Bs∧((∃v,e= .returned v∧φ G' v Bs)∨(e= .panicked ch∧ψ G' Bs))
section
variable {P:Program} {n:Nat} {ops:Array Oper} {Q:dp} {rest:List Oper} {L:br} {ds:List Deferred} {w:World} {l:List Oper}
variable {ty:TypeId} {ps:String} {af:Array Edge}
theorem afA {fn:Func}{C:Ending→World→Prop}{ch:List PanicEntry}(hR:C (.panicked ch) w):N n (bodyPost P fn C) (.panic ch) L [] w:=fun _ ha=>⟨ha.defers,hR⟩
def RA (P:Program)(n:Nat)(l:List Oper)(Q:dp)(f:Nat)(ls:Array Bool)(L:br)(ds:List Deferred)(w:World):Prop:=∀a,et n L ds a→wpAny P .any l.toArray Q f ls a w
def AK (P:Program)(l:List Oper)(Q:dp)(f:Nat)(ls:Array Bool)(i:Nat):dp:=Exit.then (fun a w=>wpAny P .any l.toArray Q f (ls.setIfInBounds i true) a w) Q
def iW (P:Program)(n:Nat)(l:List Oper)(Q:dp)(f:Nat)(ls:Array Bool)(L:br)(ds:List Deferred)(w:World):List Nat→Prop
 | []=>True
 | i::r=>(∃o,nth l i=some o∧R P n l.toArray (AK P l Q f ls i) [o] L ds w)∧iW P n l Q f ls L ds w r
theorem iW.cons {f:Nat}{ls:Array Bool}{i:Nat}{r:List Nat}{o:Oper}(hi:nth l i=some o)(h:R P n l.toArray (AK P l Q f ls i) [o] L ds w)(hr:iW P n l Q f ls L ds w r):iW P n l Q f ls L ds w (i::r):=⟨⟨o,hi,h⟩,hr⟩
theorem iW.nil {f:Nat}{ls:Array Bool}:iW P n l Q f ls L ds w []:=trivial
theorem adk {id:Nat}{w0:World}{G0:PH}{SS:List Nat}{G:PH}{B:List aW}(m:Nat)(H:Hp w0 G0 SS w G B)(hm:P.follows .mixedOrders=true)(hl:Nat.beq l.length m=true)
  (h:∀w',Hp w0 G0 SS w' G B→RA P n l Q m (Array.replicate m false) L ds w'):W P n Q (.region id l.toArray true) L ds w:=by
 intro a ha;have na:=Nat.eq_of_beq_eq_true hl;have H':Hp w0 G0 SS w.drew G B:=H.step<|Ext.drew<|Ext.refl w;refine wp_region_any hm ?_;have:l.toArray.size=m:=by simpa using na
 rw[this];exact h w.drew H' a ha
theorem ux {f:Nat}{ls:Array Bool}(rs:List Nat)(hr:Region.ready .any l.toArray ls=rs)(de:rs.isEmpty=false)(h:iW P n l Q f ls L ds w rs):RA P n l Q (f+1) ls L ds w:=by
 intro a ha;have key : ∀ rs, iW P n l Q f ls L ds w rs → ∀ i, i ∈ rs → wpOp P l.toArray Q i (wpAny P .any l.toArray Q f<|ls.setIfInBounds i true) a w := by
  intro rs;induction rs with
  | nil=>intro _ i hi;simp at hi
  | cons j r ih =>
   rintro⟨⟨o,ho,hR⟩,zr⟩ i hi;rcases List.mem_cons.1 hi with rfl|hi
   ·have h1:=hR a ha;have Bk:l.toArray[i]? = some o:=by rw[ii]at ho;simpa using ho
    unfold wpOp;simp only[Bk];simp only[wpList]at h1;split
    ·rename_i hw;rw[if_pos hw]at h1;rcases h1 with h1|⟨h1,a',w',h2⟩
     ·refine .inl ?_;unfold Oper.wp at h1 ⊢;generalize (execOp a.eval o).run P w=r at h1 ⊢;cases r with
      | ok nx w' =>
       cases nx with
       | enter g args =>
        refine Calls.mono h1 fun e w'' he=>?_;cases e with
        | returned u=>exact he
        | panicked c=>exact he
        | outgrown=>exact he
       | _=>exact h1
      | halt x w'=>cases x<;>exact h1
     ·exact .inr ⟨h1,a',w',h2⟩
    ·rename_i hw;rw[if_neg hw]at h1;exact h1
   ·exact ih zr i hi
 refine⟨fun e=>?_,fun i hi=>key rs h i<|hr▸hi⟩;rw[hr]at e;subst e;simp at de
theorem rA {f:Nat}{ls:Array Bool}{i:Nat}(h:RA P n l Q f (ls.setIfInBounds i true) L ds w):N n (AK P l Q f ls i) .normal L ds w:=h
theorem KY {f:Nat}{ls:Array Bool}{i:Nat}{ch:List PanicEntry}(h:N n Q (.panic ch) L ds w):N n (AK P l Q f ls i) (.panic ch) L ds w:=h
theorem KZ {f:Nat}{ls:Array Bool}(hr:Region.ready .any l.toArray ls=[])(h:N n Q .normal L ds w):RA P n l Q f ls L ds w:=fun a ha=>by
 cases f with
 | zero=>exact⟨hr,h a ha⟩
 | succ f=>exact⟨fun _=>h a ha,by rw[hr];simp⟩
theorem atw {f:FuncId}{cv:Value}{x:Operand}{ts:Array TypeId}(hx:od L x=some (.func (.func f) #[] #[cv]))
  (next:R P n ops Q rest L ({target:= .fn (.func f) #[cv],args:= #[]}::ds) w):R P n ops Q (⟨none,.defer ⟨.value x,#[],ts⟩,ty,ps,af,none⟩::rest) L ds w:=by
 intro a ha;refine wpList_plain rfl fun K hK=>?_;have hr:(execOp a.eval ⟨none,.defer ⟨.value x,#[],ts⟩,ty,ps,af,none⟩).run P w= .ok (.defer {target:= .fn (.func f) #[cv],args:= #[]}) w:=by
  simp[execOp,resolve,Deferred.ofValue,ha.eval hx]
 unfold Oper.wp;rw[hr,Oper.upon_defer];exact hK _ _<|next _ ⟨ha.size,ha.get,by simp[Act.put,ha.defers]⟩
variable {fn:Func} {C:Ending→World→Prop}
theorem LQ {f:FuncId}{cv:Value}(mZ:∀args w,(callFunc f args).run P w= .ok (.enter f args) w)(hr:fn.results= #[])
  (hi:CallsD P f #[cv] .returning w fun e u' w'=>e= .returned (.tuple #[])∧u'= .returning∧w'=w) (h:C (.returned<|.tuple #[]) w):N n (bodyPostD P fn C) .normal L [{target:= .fn (.func f) #[cv],args:= #[]}] w:=by
 intro a ha;show Leaves P fn a.tmps C a.defers .returning w;rw[ha.defers];refine leaves_cons (f:=f) (args:= #[cv]) (by simp) (by simp[invoke,mZ]) ?_;refine hi.mono ?_;rintro e u' w' ⟨rfl,rfl,rfl⟩;exact⟨_,results_none hr a.tmps P _,h⟩
theorem LO {f:FuncId}{cv v:Value}(mZ:∀args w,(callFunc f args).run P w= .ok (.enter f args) w)(hr:fn.results= #[])
  (hi:CallsD P f #[cv] (.panicking [{v:=v,recovered:=false}]) w fun e u' w'=>e= .returned (.tuple #[])∧u'= .panicking [{v:=v,recovered:=true}]∧C (.returned<|.tuple #[]) w'):N n (bodyPostD P fn C) (.panic [{v:=v,recovered:=false}]) L [{target:= .fn (.func f) #[cv],args:= #[]}] w:=by
 intro a ha;show Leaves P fn a.tmps C a.defers (.panicking [{v:=v,recovered:=false}]) w;rw[ha.defers];refine leaves_cons (f:=f) (args:= #[cv]) (by simp) (by simp[invoke,mZ]) ?_;refine hi.mono ?_;rintro e u' w' ⟨rfl,rfl,hC⟩;exact⟨_,results_none hr a.tmps P _,hC⟩
theorem ZU {d:Nat}{op:BinOp}{t u:TypeId}{x y:Operand}{v1 v2 r:Value}(hE:∀w,(eqGuard op t x y v1 v2).run P w= .ok () w)(hB:∀w,(binOp op t v1 v2).run P w= .ok r w)(hd:Nat.blt d n=true)(hx:od L x=some v1)(hy:od L y=some v2)
  (next:R P n ops Q rest ((d,r)::L) ds w):R P n ops Q (⟨some d,.binOp op t x y u,ty,ps,af,none⟩::rest) L ds w :=
 cP hd (fun a ha=>by simp[execOp,ha.eval hx,ha.eval hy,hE,hB]) next
theorem afy {c₀:Frame}{cs eR:List Frame}{R:Ending→FrameMode→World→Prop}(hr:fn.results= #[]){u':FrameMode}(hc:eR={c₀ with mode:=u'}::cs)(hR:R (.returned<|.tuple #[]) u' w) :
  N n (fun e a' w'=>bodyPostS P fn c₀ cs R e a' eR w') .normal L [] w:=fun a ha=>⟨ha.defers,u',hc,_,results_none hr a.tmps P w,hR⟩
theorem afz {c₀:Frame}{cs eR:List Frame}{R:Ending→FrameMode→World→Prop}(hr:fn.results= #[]){u':FrameMode}(hc:eR={c₀ with mode:=u'}::cs)(hR:R (.returned<|.tuple #[]) u' w) :
  N n (fun e a' w'=>bodyPostS P fn c₀ cs R e a' eR w') .ret L [] w:=fun a ha=>⟨ha.defers,u',hc,_,results_none hr a.tmps P w,hR⟩
theorem et.mk' {a:Act}(hs:a.tmps.size=n)(h:∀p,p ∈ L→a.tmps[p.1]? = some p.2)(hd:a.defers=ds):et n L ds a:=by
 refine⟨hs,fun t v ht=>?_,hd⟩;have:(t,v) ∈ L:=by
  clear h;induction L with
  | nil=>simp[lk]at ht
  | cons q r ih =>
   obtain⟨k,u⟩:=q;simp only[lk]at ht;by_cases e:k=t
   ·subst e;simp at ht;simp[ht]
   ·rw[Cn e]at ht;simp at ht;exact List.mem_cons_of_mem _<|ih ht
 exact h _ this
end
end Fw
namespace Sp
open Fw Nd
def bare (x:ga):ga:=⟨x.kind,x.path,x.dir,[]⟩
section
variable {d e:aK} {l:List ga} {k:Nat} {x:ga}
end
section
variable {l:List ga} {k:Nat} {x:ga}
end
def Hn (c:KD):ga:=⟨c.kind,c.item.path,c.item.dir,c.item.ids⟩
section
variable {a b:List aj} {i k:Nat} {x y:aj}
theorem aeg (hi:a.length≤i)(hk:b.length≤k):rE (a.drop i) (b.drop k)=[]:=by
 rw[List.drop_eq_nil_of_le hi,List.drop_eq_nil_of_le hk,rE];rfl
def CG (a b:List aj)(i k:Nat)(xs:List ga):Prop:=(rE a b).map Hn=xs++(rE (a.drop i)<|b.drop k).map Hn
theorem CG.zero:CG a b 0 0 []:=by simp[CG]
theorem CG.step {xs:List ga}{c:List KD}{i' k':Nat}(h:CG a b i k xs)(e:rE (a.drop i) (b.drop k)=c++rE (a.drop i') (b.drop k')):CG a b i' k' (xs++c.map Hn):=by
 unfold CG at h ⊢;rw[h,e,List.map_append,List.append_assoc]
theorem CG.done {xs:List ga}(h:CG a b i k xs)(hi:a.length≤i)(hk:b.length≤k):xs=(rE a b).map Hn:=by
 unfold CG at h;rw[h,aeg hi hk];simp
end
section
variable {a b:List aj} {i k:Nat} {x y:aj}
end
section
variable {a b:List aj} {i k:Nat} {x y:aj}
end
section
variable {d:aK} {n:Bs}
end
section
variable {d:aK} {f t:Bs}
end
end Sp
namespace Fw
open Go
def rF (n g o:TypeId):PH→ga→List Value→Prop:=fun G x cs=>∃a m k t,cs=[.iface t<|.agg #[str x.path,.bool x.dir,.slice a m k]]∧x.path.length≤16777216∧dv G (.slice a m k) x.bytes∧((x.kind=1∧t=n)∨(x.kind=2∧t=g)∨(x.kind=3∧t=o))
instance {n g o:TypeId}:ik (rF n g o):=⟨fun hle ⟨a,m,k,t,e,hp,hr,hk⟩=>⟨a,m,k,t,e,hp,hr.up hle,hk⟩⟩
theorem rF.up {n g o:TypeId}{G G':PH}{x:ga}{cs:List Value}(h:rF n g o G x cs)(hle:an G G'):rF n g o G' x cs:=ik.up (E:=rF n g o) hle h
theorem rF.one {n g o:TypeId}{G:PH}{x:ga}{cs:List Value}(h:rF n g o G x cs):∃v,cs=[v]:=let ⟨_,_,_,_,e,_⟩:=h;⟨_,e⟩
theorem rF.kind {n g o:TypeId}{G:PH}{x:ga}{cs:List Value}(h:rF n g o G x cs):1≤x.kind∧x.kind≤3:=by
 obtain⟨_,_,_,_,_,_,_,h|h|h⟩:=h<;>omega
def aef (n g o:TypeId):PH→ga→Value→Prop:=fun G x v=>rF n g o G x [v]
instance {n g o:TypeId}:GZ (aef n g o):=⟨fun hle h=>ik.up (E:=rF n g o) hle h⟩
section
variable {P:Program} {n:Nat} {ops:Array Oper} {Q:dp} {rest:List Oper} {L:br} {ds:List Deferred} {w:World}
variable {ty:TypeId} {ps:String} {af:Array Edge}
theorem ato {d:Nat}{x:Operand}{v r:Value}{xT a:TypeId}{ok:Bool}(hA:∀w,(Instr.typeAssert v xT a ok).run P w= .ok r w)(hd:Nat.blt d n=true)(hx:od L x=some v)
  (next:R P n ops Q rest ((d,r)::L) ds w):R P n ops Q (⟨some d,.typeAssert x xT a ok,ty,ps,af,none⟩::rest) L ds w :=
 cP hd (fun b hb=>by simp[execOp,hb.eval hx,hA]) next
end
end Fw
namespace Sp
open Fw Nd
theorem afL:iV [100,105,114,32,97,10,119,114,105,116,101,32,97,47,120,32,104,101,108,108,111,10,114,101,97,100,32,97,47,120,10,108,105,115,116,10]=[111,107,10,111,107,10,105,115,32,104,101,108,108,111,10,97,47,10,97,47,120,32,53,10,101,110,100,10,115,116,111,114,101,100,32,53,32,111,102,32,53,10]:=by decide +kernel
theorem afK:iV [119,114,105,116,101,32,99,32,111,108,100,10,115,110,97,112,32,115,10,119,114,105,116,101,32,99,32,110,101,119,10,114,101,97,100,32,99,10,114,101,97,100,32,99,32,115,10,98,97,99,107,32,115,10,114,101,97,100,32,99,10]=[111,107,10,111,107,10,111,107,10,105,115,32,110,101,119,10,105,115,32,111,108,100,10,111,107,10,105,115,32,111,108,100,10,115,116,111,114,101,100,32,51,32,111,102,32,54,10]:=by decide +kernel
theorem afJ:iV [119,114,105,116,101,32,99,32,97,98,99,100,101,102,103,104,105,106,10,99,108,111,110,101,32,99,32,100,10,108,105,115,116,10]=[111,107,10,111,107,10,99,32,49,48,10,100,32,49,48,10,101,110,100,10,115,116,111,114,101,100,32,49,48,32,111,102,32,50,48,10]:=by decide +kernel
theorem afI:iV [119,114,105,116,101,32,99,32,97,98,99,10,115,110,97,112,32,115,10,114,101,109,111,118,101,32,99,10,108,105,115,116,10,100,114,111,112,32,115,10,108,105,115,116,10]=[111,107,10,111,107,10,111,107,10,64,115,10,99,32,51,10,101,110,100,10,111,107,10,101,110,100,10,115,116,111,114,101,100,32,48,32,111,102,32,48,10]:=by decide +kernel
theorem afH:iV [100,105,114,10,100,105,114,32,65,10,119,114,105,116,101,32,97,47,120,32,104,101,108,108,111,10,114,101,97,100,32,97,10,114,101,97,100,32,97,32,115,10,98,97,99,107,32,115,10,108,105,115,116,32,49,10,10]=[119,104,97,116,10,110,111,10,110,111,10,110,111,10,110,111,10,110,111,10,119,104,97,116,10,119,104,97,116,10,115,116,111,114,101,100,32,48,32,111,102,32,48,10]:=by decide +kernel
end Sp
namespace Fw
open Go
class NB (b:Bool) (p q:outParam Prop):Prop where
 t:b=true→p
 f:b=false→q
section
variable {b c:Bool} {p q p' q':Prop}
instance (priority:=10) nbB:NB b (b=true) (b=false):=⟨id,id⟩
instance (priority:=50) nbD [Decidable p]:NB (decide p) p (¬p):=⟨of_decide_eq_true,of_decide_eq_false⟩
instance nbL {x y:Int} [Decidable<|x<y]:NB (decide (x<y)) (x<y) (y≤x):=⟨of_decide_eq_true,fun h=>Int.not_lt.1<|of_decide_eq_false h⟩
instance nbE {x y:Int} [Decidable<|x≤y]:NB (decide (x≤y)) (x≤y) (y<x):=⟨of_decide_eq_true,fun h=>Int.not_le.1<|of_decide_eq_false h⟩
instance nbN [h:NB b p q]:NB (!b) q p:=⟨fun e=>h.f<|by simpa using e,fun e=>h.t<|by simpa using e⟩
instance nbA [h:NB b p q] [h':NB c p' q']:NB (b&&c) (p∧p') (q∨q') :=
 ⟨fun e=>by simp only[Bool.and_eq_true]at e;exact⟨h.t e.1,h'.t e.2⟩,fun e=>by simp only[Bool.and_eq_false_iff]at e;exact e.imp h.f h'.f⟩
instance nbO [h:NB b p q] [h':NB c p' q']:NB (b||c) (p∨p') (q∧q') :=
 ⟨fun e=>by simp only[Bool.or_eq_true]at e;exact e.imp h.t h'.t,fun e=>by simp only[Bool.or_eq_false_iff]at e;exact⟨h.f e.1,h'.f e.2⟩⟩
instance nbQ {α:Type} [BEq α] [LawfulBEq α] {x y:α}:NB (x==y) (x=y) (x≠y):=⟨fun e=>beq_iff_eq.1 e,fun e=>beq_eq_false_iff_ne.1 e⟩
instance nbT [Decidable<|b=true] [h:NB b p q]:NB (decide (b=true)) p q:=⟨fun e=>h.t<|of_decide_eq_true e,fun e=>h.f (by have:=of_decide_eq_false e;simpa using this)⟩
end
section
variable {P:Program} {n:Nat} {Q:dp} {L:br} {ds:List Deferred} {w:World} {ops:Array Oper} {l:List Oper} {b:Bool} {p q:Prop} {t:Nat}
theorem ar {c:Operand}{x y:Code}(hc:od L c=some (.bool b)) [h:NB b p q] (ht:p→W P n Q x L ds w)(hf:q→W P n Q y L ds w):W P n Q (.cond c x y) L ds w :=
 pK hc (fun e=>ht<|h.t e) (fun e=>hf<|h.f e)
theorem bm (hv:lk L t=some (.bool b)) [h:NB b p q] (ht:p→R P n ops Q l ((t,.bool true)::L) ds w)(hf:q→R P n ops Q l ((t,.bool false)::L) ds w):R P n ops Q l L ds w :=
 Tg hv (fun e=>ht<|h.t e) (fun e=>hf<|h.f e)
theorem mP {S:World→Prop}{f:Nat}{ls:Array Bool}(hv:lk L t=some (.bool b)) [h:NB b p q] (ht:p→RD P n l Q S f ls ((t,.bool true)::L) ds w)(hf:q→RD P n l Q S f ls ((t,.bool false)::L) ds w):RD P n l Q S f ls L ds w :=
 ac0 hv (fun e=>ht<|h.t e) (fun e=>hf<|h.f e)
theorem av {M:br}(t:Nat){v:Value}(h:lk L t=some v)(hs:Sub M L):Sub ((t,v)::M) L:=Sub.cons h hs
theorem bz:Sub [] L:=Sub.nil
end
theorem aU.lm {α:Type}{E:PH→α→List Value→Prop}{sz:Nat}{G:PH}{v:Value}{xs:List α}(h:aU 1099511627776 E sz G v xs):xs.length≤1099511627776:=h.lim
theorem Hp.rb {w0 w:World}{G0 G:PH}{B:List aW}{a b:Bool}(H:Hp w0 G0 [] w G B)(e:a=b):b8 w0 (.bool b) (.returned<|.bool a) w:=H.cg<|congrArg Value.bool e
theorem bG:(∀{α:Type} {l r:List α},(l++r).length=l.length+r.length)∧(∀{α:Type} {a:α} {l:List α},(a::l).length=l.length+1)∧(∀{α:Type},([]:List α).length=0):=⟨List.length_append,List.length_cons,List.length_nil⟩
end Fw
namespace Go.Proofs.Tst
open Go Fw Go.RowKit Go.Extern.Stop Go.Stop Go.Extern Tryz
variable (w0:World)(G0:PH)
theorem adL (t:Value)(w:World):Calls prog 52 #[.nilIface,t] w fun e w'=>e= .returned (.bool false)∧w'=w:=by
 go_enter func52,ntmps52
 go_wp2
 go_ret
 exact⟨Z,Z⟩
theorem adS (t:Addr)(w:World):(ReflectliteValue.unpack<|.iface 109<|.pointer<|some t).run prog w
  = .ok (.agg #[.pointer<|some ⟨7,109,none⟩,.pointer<|some ⟨w.heap.size,0,none⟩,.int .u64 150]) (w.alloc<|.cells #[.pointer<|some t] 109):=by kernel_rfl
theorem adQ (a:Addr)(w:World):(ReflectliteValue.methodAny (ReflectliteValue.valueError "reflectlite.Value.Type" 0) (fun t _ _ _=>ReflectliteType.toType t) #[.agg #[.pointer<|some ⟨7,109,none⟩,.pointer<|some a,.int .u64 150]]).run prog w
  = .ok (.iface 211<|.agg #[.pointer<|some ⟨7,109,none⟩]) w:=by kernel_rfl
theorem adJ (h:Value)(w:World):(Go.method 467 211 (.agg #[h]) "Kind").run prog w= .ok (329,h) w:=by kernel_rfl
theorem adD (w:World):((ReflectliteType.abiMethod fun t=>Functor.map (fun a:Nat=>Value.int IntKind.u8 (a:Int))<|Rtype.kind t) #[.pointer<|some ⟨7,109,none⟩]).run prog w= .ok (.int .u8 22) w:=by kernel_rfl
theorem adC (w:World):((ReflectliteType.abiMethod fun t=>Functor.map (fun a:Nat=>Value.int IntKind.u8 (a:Int))<|Rtype.kind t) #[.pointer<|some ⟨7,107,none⟩]).run prog w= .ok (.int .u8 25) w:=by kernel_rfl
theorem Tt (z:Sem Value)(f:TypeId→Addr→Nat→Nat→Sem Value)(v:Value) :
  ReflectliteValue.method z f #[v]=(do match←ReflectliteValue.parts v with |none=>z|some (t,a,fl)=>f t a fl<|fl % 32):=rfl
theorem Ts (a:Addr)(w:World):(ReflectliteValue.parts<|.agg #[.pointer<|some ⟨7,109,none⟩,.pointer<|some a,.int .u64 150]).run prog w= .ok (some (109,a,150)) w:=by kernel_rfl
theorem adB (a p:Addr)(W:World)(ha:W.cell? a=some (.pointer<|some p)) :
  (ReflectliteValue.method (ReflectliteValue.valueError "reflectlite.Value.IsNil" 0) ReflectliteValue.isNil #[.agg #[.pointer<|some ⟨7,109,none⟩,.pointer<|some a,.int .u64 150]]).run prog W= .ok (.bool false) W:=by
 rw[Tt];simp only[Sem.run_bind,Ts,Result.andThen];simp[ReflectliteValue.isNil,loadVar,isAgg,underlying,underlying109,ha,Result.andThen]
theorem adH (h:Value)(w:World):(Go.method 467 211 (.agg #[h]) "Elem").run prog w= .ok (341,.agg #[h]) w:=by kernel_rfl
theorem adI (h:Value)(w:World):(Go.method 467 211 (.agg #[h]) "Implements").run prog w= .ok (342,.agg #[h]) w:=by kernel_rfl
theorem adG (h:Value)(w:World):(Go.method 467 211 (.agg #[h]) "AssignableTo").run prog w= .ok (339,.agg #[h]) w:=by kernel_rfl
theorem adw (w:World):(ReflectliteType.method ReflectliteType.elem #[.agg #[.pointer<|some ⟨7,109,none⟩]]).run prog w= .ok (.iface 211<|.agg #[.pointer<|some ⟨7,107,none⟩]) w:=by kernel_rfl
theorem adA (w:World):(ReflectliteType.relation "Implements" ReflectliteType.implements_ #[.agg #[.pointer<|some ⟨7,107,none⟩],.iface 211<|.agg #[.pointer<|some ⟨7,63,none⟩]]).run prog w= .ok (.bool true) w:=by kernel_rfl
theorem adP (v:Value)(w:World):(ReflectliteType.typeOf #[.iface 107 v]).run prog w= .ok (.iface 211<|.agg #[.pointer<|some ⟨7,107,none⟩]) w:=by kernel_rfl
theorem adt (w:World):(ReflectliteType.relation "AssignableTo" ReflectliteType.assignableTo #[.agg #[.pointer<|some ⟨7,107,none⟩],.iface 211<|.agg #[.pointer<|some ⟨7,107,none⟩]]).run prog w= .ok (.bool true) w:=by kernel_rfl
theorem adR (s:Bs)(w:World):(ReflectliteValue.unpack<|.iface 107<|.agg #[str s]).run prog w
  = .ok (.agg #[.pointer<|some ⟨7,107,none⟩,.pointer<|some ⟨w.heap.size,0,none⟩,.int .u64 153]) (w.alloc<|.cells #[str s] 107):=by kernel_rfl
theorem adx (w:World):(Rtype.elem? 109).run prog w= .ok (some 107) w:=by kernel_rfl
theorem adK (p:Addr)(w:World):(ReflectliteValue.mk 107 p ReflectliteValue.flagAddr).run prog w= .ok (.agg #[.pointer<|some ⟨7,107,none⟩,.pointer<|some p,.int .u64 409]) w:=by kernel_rfl
theorem ady (a p:Addr)(W:World)(ha:W.cell? a=some (.pointer<|some p)) :
  (ReflectliteValue.method (ReflectliteValue.valueError "reflectlite.Value.Elem" 0) ReflectliteValue.elem #[.agg #[.pointer<|some ⟨7,109,none⟩,.pointer<|some a,.int .u64 150]]).run prog W
   = .ok (.agg #[.pointer<|some ⟨7,107,none⟩,.pointer<|some p,.int .u64 409]) W:=by
 rw[Tt];simp only[Sem.run_bind,Ts,Result.andThen];simp[ReflectliteValue.elem,loadVar,isAgg,underlying,underlying109,ha,Result.andThen,adx,adK]
theorem adF (h1:Value→Value→Sem Value)(h2:Array Value→Sem Value)(v x:Value):ReflectliteValue.set.match_3 (fun _=>Sem Value) #[v,x] h1 h2=h1 v x:=rfl
theorem adN (a:Addr)(w:World):(ReflectliteValue.parts<|.agg #[.pointer<|some ⟨7,107,none⟩,.pointer<|some a,.int .u64 409]).run prog w= .ok (some (107,a,409)) w:=by kernel_rfl
theorem adM (a:Addr)(w:World):(ReflectliteValue.parts<|.agg #[.pointer<|some ⟨7,107,none⟩,.pointer<|some a,.int .u64 153]).run prog w= .ok (some (107,a,153)) w:=by kernel_rfl
theorem adu (w:World):(Rtype.directlyAssignable 107 107).run prog w= .ok true w:=by kernel_rfl
theorem adE (b:Addr)(s:Bs)(W:World)(hb:W.cell? b=some (str s)):(loadVar 107 b).run prog W= .ok (.agg #[str s]) W:=by
 have h1:=run_loadCells_list (P:=prog) W b [str s] (fun j v hv=>by
  match j,hv with
  | 0,hv =>
   cases hv;have e:b.add 0=b:=by cases b;simp[Addr.add]
   rw[e];exact hb)
 simp only[loadVar,Sem.run_bind,isAgg107,Result.andThen_ok,if_true,sizeOf107];simp only[List.length_cons,List.length_nil]at h1;simp[h1]
theorem adO (ta b:Addr)(s:Bs)(cO:Value)(W:World)(hb:W.cell? b=some (str s))(ht:W.cell? ta=some cO)(hf:W.frozen? ta=false) :
  (ReflectliteValue.set #[.agg #[.pointer<|some ⟨7,107,none⟩,.pointer<|some ta,.int .u64 409],.agg #[.pointer<|some ⟨7,107,none⟩,.pointer<|some b,.int .u64 153]]).run prog W
   = .ok (.tuple #[]) (W.setCell ta<|str s):=by
 delta ReflectliteValue.set;rw[adF];simp only[Sem.run_bind,adN,adM,Result.andThen];simp[ReflectliteValue.flagAddr,adE b s W hb,Result.andThen,adu,storeVar,sizeOf107,Value.cells,storeCells,Addr.add];rw[run_store prog W ta _ _<|by rfl];simp[ht,hf]
set_option maxHeartbeats 4000000 in
theorem adz (s:Bs)(t:Addr)(cO:Value)(w:World)(hg:w.cell? ⟨1,0,none⟩=some (.iface 211<|.agg #[.pointer<|some ⟨7,63,none⟩]))(XR:w.cell? t=some cO)(hf0:w.frozen? t=false) :
  Calls prog 52 #[.iface 107<|.agg #[str s],.iface 109<|.pointer<|some t] w fun ev w'=>ev= .returned (.bool true)∧w'=((((w.alloc<|.cells #[.pointer<|some t] 109).alloc<|.cells #[.pointer<|some ⟨7,109,none⟩,.pointer<|some ⟨w.heap.size,0,none⟩,.int .u64 150] 156).alloc<|.cells #[.pointer<|some ⟨7,109,none⟩,.pointer<|some ⟨w.heap.size,0,none⟩,.int .u64 150] 156).alloc<|.cells #[str s] 107).setCell t (str s):=by
 have h6:= @run_callFunc_extern prog 98 _ (fun args=>ReflectliteValue.unpack<|args.getD 0<|.tuple #[]) func98 kR kR kR kR;have h7:= @run_callFunc_extern prog 99 _ (ReflectliteValue.methodAny (ReflectliteValue.valueError "reflectlite.Value.Type" 0)<|fun t _ _ _=>ReflectliteType.toType t) func99 kR kR kR kR;have h8:= @run_callFunc_extern prog 100 _ (ReflectliteValue.method (ReflectliteValue.valueError "reflectlite.Value.IsNil" 0) ReflectliteValue.isNil) func100 kR kR kR kR;have h27:= @run_callFunc_extern prog 329 _ (ReflectliteType.abiMethod fun t=>do pure (.int .u8<|←Rtype.kind t)) func329 kR kR kR kR;have h37:= @run_callFunc_extern prog 341 _ (ReflectliteType.method ReflectliteType.elem) func341 kR kR kR kR;have h38:= @run_callFunc_extern prog 342 _ (ReflectliteType.relation "Implements" ReflectliteType.implements_) func342 kR kR kR kR;have Vi:= @run_callFunc_extern prog 152 _ ReflectliteType.typeOf func152 kR kR kR kR;have h35:= @run_callFunc_extern prog 339 _ (ReflectliteType.relation "AssignableTo" ReflectliteType.assignableTo) func339 kR kR kR kR;have h11:= @run_callFunc_extern prog 153 _ (ReflectliteValue.method (ReflectliteValue.valueError "reflectlite.Value.Elem" 0) ReflectliteValue.elem) func153 kR kR kR kR;have h12:= @run_callFunc_extern prog 154 _ ReflectliteValue.set func154 kR kR kR kR;have tO:=adP;have mA:=adG;have aC:=adt;have vC:=adR;have f6:=adS;have f7:=adQ;have mK:=adJ;have mE:=adH;have mI:=adI;have kP:=adD;have kC:=adC;have eP:=adw;have iC:=adA;have n8:=adB ⟨w.heap.size,0,none⟩ t ((w.alloc<|.cells #[.pointer<|some t] 109).alloc<|.cells #[.pointer<|some ⟨7,109,none⟩,.pointer<|some ⟨w.heap.size,0,none⟩,.int .u64 150] 156) (by simp);have ef:1<w.heap.size:=by
  rcases Nat.lt_or_ge 1 w.heap.size with h|h
  ·exact h
  simp[World.cell?,Array.getElem?_eq_none h]at hg
 have hg2:((w.alloc<|.cells #[.pointer<|some t] 109).alloc<|.cells #[.pointer<|some ⟨7,109,none⟩,.pointer<|some ⟨w.heap.size,0,none⟩,.int .u64 150] 156).cell? ⟨1,0,none⟩=some (.iface 211<|.agg #[.pointer<|some ⟨7,63,none⟩]):=by
  rw[World.cell?_alloc_lt _ _ ⟨1,0,none⟩<|by first|(simp;done)|(simp;omega),World.cell?_alloc_lt _ _ ⟨1,0,none⟩ ef];exact hg
 have nS:t.block<w.heap.size:=by
  rcases Nat.lt_or_ge t.block w.heap.size with h|h
  ·exact h
  simp[World.cell?,Array.getElem?_eq_none h]at XR
 have el:=ady ⟨w.heap.size,0,none⟩ t (((w.alloc<|.cells #[.pointer<|some t] 109).alloc<|.cells #[.pointer<|some ⟨7,109,none⟩,.pointer<|some ⟨w.heap.size,0,none⟩,.int .u64 150] 156).alloc<|.cells #[.pointer<|some ⟨7,109,none⟩,.pointer<|some ⟨w.heap.size,0,none⟩,.int .u64 150] 156) (by rw[World.cell?_alloc_lt _ _ ⟨w.heap.size,0,none⟩<|by simp;omega];simp);have st:=adO t ⟨w.heap.size+1+1+1,0,none⟩ s cO ((((w.alloc<|.cells #[.pointer<|some t] 109).alloc<|.cells #[.pointer<|some ⟨7,109,none⟩,.pointer<|some ⟨w.heap.size,0,none⟩,.int .u64 150] 156).alloc<|.cells #[.pointer<|some ⟨7,109,none⟩,.pointer<|some ⟨w.heap.size,0,none⟩,.int .u64 150] 156).alloc<|.cells #[str s] 107)
  (by rw[World.cell?_alloc_at _ _ _ _<|by simp];rfl)
  (by rw[World.cell?_alloc_lt _ _ t<|by simp;omega,World.cell?_alloc_lt _ _ t<|by simp;omega,World.cell?_alloc_lt _ _ t<|by simp;omega,World.cell?_alloc_lt _ _ t nS];exact XR)
  (by rw[World.frozen?_alloc_old _ _ t<|by simp;omega,World.frozen?_alloc_old _ _ t<|by simp;omega,World.frozen?_alloc_old _ _ t<|by simp;omega,World.frozen?_alloc_old _ _ t<|Nat.ne_of_lt nS];exact hf0)
 go_enter func52,ntmps52
 go_wp2
 refine wp_loop_rounds 1 ?_;rw[rounds_succ]
 go_wp2
 go_ret
 exact⟨Z,Z⟩
def nH (G:PH):Prop:=oe G 1 0<|.iface 211<|.agg #[.pointer<|some ⟨7,63,none⟩]
theorem nH.up {G G':PH}(h:nH G)(hle:an G G'):nH G':=oe.mono h hle
theorem awc (hG:aE G0 w0):Calls prog 36 #[.nilIface] w0 (b8 w0<|.bool false):=by
 have H:=Hp.init hG;refine aO func36 Z ntmps36 Z ?_;refine ah<|aL<|Gc Z Z<|aF<|ae<|ah<|aL<|RI H zeroValue107 Z Z ?_;intro b w1 hb H;refine aF<|ae<|ah<|aL<|RQ Z Z<|JW kR Z Z ?_;refine o6 call52 Z Z (adL _ _) ?_;rintro _ w2 ⟨rfl,rfl⟩;refine⟨_,rfl,?_⟩;refine Gc Z Z<|aF<|ae<|ag ?_;refine au results36 Z ?_;exact H.cg Z
theorem awb (hG:aE G0 w0)(c7:nH G0)(s:Bs):Calls prog 36 #[.iface 107<|.agg #[str s]] w0 (b8 w0<|.bool true):=by
 have H:=Hp.init hG;refine aO func36 Z ntmps36 Z ?_;refine ah<|aL<|Gc Z Z<|aF<|ae<|ah<|aL<|RI H zeroValue107 Z Z ?_;intro b w1 hb H;refine aF<|ae<|ah<|aL<|RQ Z Z<|JW kR Z Z ?_;refine o6 call52 Z Z (adz s ⟨b,0,none⟩ _ _ (oe.cell c7 H.sub) (pN H (k:=0) Z Z)<|CR H (k:=0) Z) ?_;rintro _ w2 ⟨rfl,rfl⟩;refine⟨_,rfl,?_⟩;have hS:=fun(o1 o2 o3 o4:Obj)=>Ae (H.step<|(((Ext.alloc w1 o1).trans<|Ext.alloc _ o2).trans<|Ext.alloc _ o3).trans<|Ext.alloc _ o4) (k:=0) (o:=0) rfl<|str s;refine Gc Z Z<|aF<|ae<|ag ?_;refine au results36 Z ?_;exact(hS _ _ _ _).cg Z
end Go.Proofs.Tst
namespace Go.Proofs
open Go.Shelf Tryz
def Y0:Go.Shelf.Ren:=⟨fun|7=>54|10=>104|n=>n,fun|23=>74|26=>3|3=>84|28=>112|0=>0|27=>111|33=>167|4=>4|n=>n,fun|n=>n⟩
theorem YZ:Go.Proofs.SlLaysZI.n7 prog Y0:={
 mixed:=by kernel_rfl
 f7:=⟨f54.name,by decide,func54.trans<|congrArg some<|by kernel_rfl⟩
 f10:=⟨f104.name,by decide,func104.trans<|congrArg some<|by kernel_rfl⟩
 t0:=underlying0
 a0:=isAgg0
 z0:=sizeOf0
 v0:=zeroValue0
 t4:=underlying4
 a4:=isAgg4
 z4:=sizeOf4
 v4:=zeroValue4
 t23:=underlying74
 a23:=isAgg74
 z23:=sizeOf74
 v23:=zeroValue74
 t26:=underlying3
 a26:=isAgg3
 z26:=sizeOf3
 v26:=zeroValue3
 t27:=underlying111
 a27:=isAgg111
 z27:=sizeOf111
 v27:=zeroValue111
 t28:=underlying112
 a28:=isAgg112
 z28:=sizeOf112
 v28:=zeroValue112
 t33:=underlying167
 a33:=isAgg167
 z33:=sizeOf167
 v33:=zeroValue167}
def abg:Go.Shelf.Ren:=⟨fun|6=>53|8=>102|9=>103|11=>155|13=>157|12=>156|23=>208|24=>159|14=>199|15=>200|16=>201|17=>202|18=>203|19=>204|20=>205|21=>206|22=>207|25=>239|26=>240|27=>241|28=>242|29=>243|30=>244|31=>262|n=>n,fun|26=>3|28=>112|24=>82|0=>0|3=>3|37=>142|48=>68|50=>170|4=>4|40=>259|39=>258|45=>252|5=>5|9=>9|51=>284|55=>288|57=>303|58=>304|33=>167|n=>n,fun|n=>n⟩
theorem avJ:Go.Proofs.SlLaysZI.n6 prog abg:={
 mixed:=by kernel_rfl
 f6:=⟨f53.name,by decide,func53.trans<|congrArg some<|by kernel_rfl⟩
 f8:=⟨f102.name,by decide,func102.trans<|congrArg some<|by kernel_rfl⟩
 f11:=⟨f155.name,by decide,func155.trans<|congrArg some<|by kernel_rfl⟩
 t0:=underlying0
 a0:=isAgg0
 z0:=sizeOf0
 v0:=zeroValue0
 t24:=underlying82
 a24:=isAgg82
 z24:=sizeOf82
 v24:=zeroValue82
 t26:=underlying3
 a26:=isAgg3
 z26:=sizeOf3
 v26:=zeroValue3
 t28:=underlying112
 a28:=isAgg112
 z28:=sizeOf112
 v28:=zeroValue112
 i26:=by kernel_rfl}
def avE:Go.Shelf.Ren:=⟨fun|5=>103|8=>157|7=>156|19=>208|20=>159|10=>199|11=>200|12=>201|13=>202|14=>203|15=>204|16=>205|17=>206|18=>207|30=>239|31=>240|32=>241|33=>242|34=>243|35=>244|40=>262|n=>n,fun|23=>82|25=>3|3=>3|32=>142|22=>82|0=>0|44=>68|46=>170|4=>4|36=>259|35=>258|41=>252|5=>5|9=>9|53=>284|57=>288|63=>303|64=>304|n=>n,fun|n=>n⟩
theorem abe:Go.Proofs.SlLaysM.n5 prog avE:={
 mixed:=by kernel_rfl
 f5:=⟨f103.name,by decide,func103.trans<|congrArg some<|by kernel_rfl⟩
 f7:=⟨f156.name,by decide,func156.trans<|congrArg some<|by kernel_rfl⟩
 f8:=func157.trans (congrArg some<|by kernel_rfl)
 f10:=⟨f199.name,by decide,func199.trans<|congrArg some<|by kernel_rfl⟩
 f11:=⟨f200.name,by decide,func200.trans<|congrArg some<|by kernel_rfl⟩
 f12:=⟨f201.name,by decide,func201.trans<|congrArg some<|by kernel_rfl⟩
 f13:=⟨f202.name,by decide,func202.trans<|congrArg some<|by kernel_rfl⟩
 f14:=⟨f203.name,by decide,func203.trans<|congrArg some<|by kernel_rfl⟩
 f15:=⟨f204.name,by decide,func204.trans<|congrArg some<|by kernel_rfl⟩
 f16:=⟨f205.name,by decide,func205.trans<|congrArg some<|by kernel_rfl⟩
 f17:=⟨f206.name,by decide,func206.trans<|congrArg some<|by kernel_rfl⟩
 f18:=⟨f207.name,by decide,func207.trans<|congrArg some<|by kernel_rfl⟩
 f19:=func208.trans (congrArg some<|by kernel_rfl)
 f20:=func159.trans (congrArg some<|by kernel_rfl)
 f30:=⟨f239.name,by decide,func239.trans<|congrArg some<|by kernel_rfl⟩
 f31:=func240.trans (congrArg some<|by kernel_rfl)
 f32:=func241.trans (congrArg some<|by kernel_rfl)
 f33:=⟨f242.name,by decide,func242.trans<|congrArg some<|by kernel_rfl⟩
 f34:=⟨f243.name,by decide,func243.trans<|congrArg some<|by kernel_rfl⟩
 f35:=⟨f244.name,by decide,func244.trans<|congrArg some<|by kernel_rfl⟩
 f40:=⟨f262.name,by decide,func262.trans<|congrArg some<|by kernel_rfl⟩
 t0:=underlying0
 a0:=isAgg0
 z0:=sizeOf0
 v0:=zeroValue0
 t3:=underlying3
 a3:=isAgg3
 z3:=sizeOf3
 v3:=zeroValue3
 t4:=underlying4
 a4:=isAgg4
 z4:=sizeOf4
 v4:=zeroValue4
 t5:=underlying5
 a5:=isAgg5
 z5:=sizeOf5
 v5:=zeroValue5
 t9:=underlying9
 a9:=isAgg9
 z9:=sizeOf9
 v9:=zeroValue9
 t22:=underlying82
 a22:=isAgg82
 z22:=sizeOf82
 v22:=zeroValue82
 t23:=underlying82
 a23:=isAgg82
 z23:=sizeOf82
 v23:=zeroValue82
 t25:=underlying3
 a25:=isAgg3
 z25:=sizeOf3
 v25:=zeroValue3
 t32:=underlying142
 a32:=isAgg142
 z32:=sizeOf142
 v32:=zeroValue142
 t35:=underlying258
 a35:=isAgg258
 z35:=sizeOf258
 v35:=zeroValue258
 t36:=underlying259
 a36:=isAgg259
 z36:=sizeOf259
 v36:=zeroValue259
 t41:=underlying252
 a41:=isAgg252
 z41:=sizeOf252
 v41:=zeroValue252
 t44:=underlying68
 a44:=isAgg68
 z44:=sizeOf68
 v44:=zeroValue68
 t46:=underlying170
 a46:=isAgg170
 z46:=sizeOf170
 v46:=zeroValue170
 t53:=underlying284
 a53:=isAgg284
 z53:=sizeOf284
 v53:=zeroValue284
 t57:=underlying288
 a57:=isAgg288
 z57:=sizeOf288
 v57:=zeroValue288
 t63:=underlying303
 a63:=isAgg303
 z63:=sizeOf303
 v63:=zeroValue303
 t64:=underlying304
 a64:=isAgg304
 z64:=sizeOf304
 v64:=zeroValue304}
def avG:Go.Shelf.Ren:=⟨fun|6=>279|15=>157|14=>295|28=>208|29=>159|20=>302|21=>303|22=>304|23=>305|24=>306|25=>307|26=>308|27=>309|46=>311|47=>240|48=>241|49=>312|50=>313|57=>314|n=>n,fun|22=>34|24=>128|25=>318|3=>3|39=>142|0=>0|53=>68|55=>170|4=>4|46=>259|45=>258|50=>252|5=>5|9=>9|66=>284|70=>288|76=>303|77=>304|n=>n,fun|n=>n⟩
theorem abf:Go.Proofs.SlLaysF0.n6 prog avG:={
 mixed:=by kernel_rfl
 f6:=⟨f279.name,by decide,func279.trans<|congrArg some<|by kernel_rfl⟩
 f14:=⟨f295.name,by decide,func295.trans<|congrArg some<|by kernel_rfl⟩
 f15:=func157.trans (congrArg some<|by kernel_rfl)
 f20:=⟨f302.name,by decide,func302.trans<|congrArg some<|by kernel_rfl⟩
 f21:=⟨f303.name,by decide,func303.trans<|congrArg some<|by kernel_rfl⟩
 f22:=⟨f304.name,by decide,func304.trans<|congrArg some<|by kernel_rfl⟩
 f23:=⟨f305.name,by decide,func305.trans<|congrArg some<|by kernel_rfl⟩
 f24:=⟨f306.name,by decide,func306.trans<|congrArg some<|by kernel_rfl⟩
 f25:=⟨f307.name,by decide,func307.trans<|congrArg some<|by kernel_rfl⟩
 f26:=⟨f308.name,by decide,func308.trans<|congrArg some<|by kernel_rfl⟩
 f27:=⟨f309.name,by decide,func309.trans<|congrArg some<|by kernel_rfl⟩
 f28:=func208.trans (congrArg some<|by kernel_rfl)
 f29:=func159.trans (congrArg some<|by kernel_rfl)
 f46:=⟨f311.name,by decide,func311.trans<|congrArg some<|by kernel_rfl⟩
 f47:=func240.trans (congrArg some<|by kernel_rfl)
 f48:=func241.trans (congrArg some<|by kernel_rfl)
 f49:=⟨f312.name,by decide,func312.trans<|congrArg some<|by kernel_rfl⟩
 f50:=⟨f313.name,by decide,func313.trans<|congrArg some<|by kernel_rfl⟩
 f57:=⟨f314.name,by decide,func314.trans<|congrArg some<|by kernel_rfl⟩
 t0:=underlying0
 a0:=isAgg0
 z0:=sizeOf0
 v0:=zeroValue0
 t3:=underlying3
 a3:=isAgg3
 z3:=sizeOf3
 v3:=zeroValue3
 t4:=underlying4
 a4:=isAgg4
 z4:=sizeOf4
 v4:=zeroValue4
 t5:=underlying5
 a5:=isAgg5
 z5:=sizeOf5
 v5:=zeroValue5
 t9:=underlying9
 a9:=isAgg9
 z9:=sizeOf9
 v9:=zeroValue9
 t22:=underlying34
 a22:=isAgg34
 z22:=sizeOf34
 v22:=zeroValue34
 t25:=underlying318
 a25:=isAgg318
 z25:=sizeOf318
 v25:=zeroValue318
 t39:=underlying142
 a39:=isAgg142
 z39:=sizeOf142
 v39:=zeroValue142
 t45:=underlying258
 a45:=isAgg258
 z45:=sizeOf258
 v45:=zeroValue258
 t46:=underlying259
 a46:=isAgg259
 z46:=sizeOf259
 v46:=zeroValue259
 t50:=underlying252
 a50:=isAgg252
 z50:=sizeOf252
 v50:=zeroValue252
 t53:=underlying68
 a53:=isAgg68
 z53:=sizeOf68
 v53:=zeroValue68
 t55:=underlying170
 a55:=isAgg170
 z55:=sizeOf170
 v55:=zeroValue170
 t66:=underlying284
 a66:=isAgg284
 z66:=sizeOf284
 v66:=zeroValue284
 t70:=underlying288
 a70:=isAgg288
 z70:=sizeOf288
 v70:=zeroValue288
 t76:=underlying303
 a76:=isAgg303
 z76:=sizeOf303
 v76:=zeroValue303
 t77:=underlying304
 a77:=isAgg304
 z77:=sizeOf304
 v77:=zeroValue304}
def Zo:Go.Shelf.Ren:=⟨fun|143=>92|219=>48|217=>77|225=>78|224=>79|267=>80|266=>133|314=>134|n=>n,fun|9=>9|3=>3|4=>4|5=>5|46=>142|146=>197|51=>68|n=>n,fun|1=>0|n=>n⟩
theorem Zn:Go.Proofs.Lays.n143 prog Zo:={
 mixed:=by kernel_rfl
 f143:=func92.trans (congrArg some<|by kernel_rfl)
 f217:=func77.trans (congrArg some<|by kernel_rfl)
 f219:=func48.trans (congrArg some<|by kernel_rfl)
 f224:=func79.trans (congrArg some<|by kernel_rfl)
 f225:=func78.trans (congrArg some<|by kernel_rfl)
 f266:=func133.trans (congrArg some<|by kernel_rfl)
 f267:=func80.trans (congrArg some<|by kernel_rfl)
 f314:=func134.trans (congrArg some<|by kernel_rfl)
 t3:=underlying3
 a3:=isAgg3
 z3:=sizeOf3
 v3:=zeroValue3
 t4:=underlying4
 a4:=isAgg4
 z4:=sizeOf4
 v4:=zeroValue4
 t5:=underlying5
 a5:=isAgg5
 z5:=sizeOf5
 v5:=zeroValue5
 t9:=underlying9
 a9:=isAgg9
 z9:=sizeOf9
 v9:=zeroValue9
 t46:=underlying142
 a46:=isAgg142
 z46:=sizeOf142
 v46:=zeroValue142
 t51:=underlying68
 a51:=isAgg68
 z51:=sizeOf68
 v51:=zeroValue68
 t146:=underlying197
 a146:=isAgg197
 z146:=sizeOf197
 v146:=zeroValue197
 g1:=by kernel_rfl}
def asn:Go.Shelf.Ren:=⟨fun|138=>91|195=>144|218=>146|143=>92|219=>48|217=>77|225=>78|224=>79|267=>80|266=>133|314=>134|n=>n,fun|9=>9|3=>3|4=>4|5=>5|0=>0|46=>142|146=>197|51=>68|n=>n,fun|1=>0|n=>n⟩
theorem asm:Go.Proofs.Lays.n138 prog asn:={
 mixed:=by kernel_rfl
 f138:=func91.trans (congrArg some<|by kernel_rfl)
 f143:=func92.trans (congrArg some<|by kernel_rfl)
 f195:=func144.trans (congrArg some<|by kernel_rfl)
 f217:=func77.trans (congrArg some<|by kernel_rfl)
 f218:=func146.trans (congrArg some<|by kernel_rfl)
 f219:=func48.trans (congrArg some<|by kernel_rfl)
 f224:=func79.trans (congrArg some<|by kernel_rfl)
 f225:=func78.trans (congrArg some<|by kernel_rfl)
 f266:=func133.trans (congrArg some<|by kernel_rfl)
 f267:=func80.trans (congrArg some<|by kernel_rfl)
 f314:=func134.trans (congrArg some<|by kernel_rfl)
 t0:=underlying0
 a0:=isAgg0
 z0:=sizeOf0
 v0:=zeroValue0
 t3:=underlying3
 a3:=isAgg3
 z3:=sizeOf3
 v3:=zeroValue3
 t4:=underlying4
 a4:=isAgg4
 z4:=sizeOf4
 v4:=zeroValue4
 t5:=underlying5
 a5:=isAgg5
 z5:=sizeOf5
 v5:=zeroValue5
 t9:=underlying9
 a9:=isAgg9
 z9:=sizeOf9
 v9:=zeroValue9
 t46:=underlying142
 a46:=isAgg142
 z46:=sizeOf142
 v46:=zeroValue142
 t51:=underlying68
 a51:=isAgg68
 z51:=sizeOf68
 v51:=zeroValue68
 t146:=underlying197
 a146:=isAgg197
 z146:=sizeOf197
 v146:=zeroValue197
 g1:=by kernel_rfl}
def Zp:Go.Shelf.Ren:=⟨fun|169=>26|n=>n,fun|70=>38|9=>9|0=>0|72=>40|37=>22|127=>90|3=>3|5=>5|n=>n,fun|n=>n⟩
theorem Q9:Go.Proofs.Lays.n169 prog Zp:={
 mixed:=by kernel_rfl
 f169:=func26.trans (congrArg some<|by kernel_rfl)
 t0:=underlying0
 a0:=isAgg0
 z0:=sizeOf0
 v0:=zeroValue0
 t3:=underlying3
 a3:=isAgg3
 z3:=sizeOf3
 v3:=zeroValue3
 t9:=underlying9
 a9:=isAgg9
 z9:=sizeOf9
 v9:=zeroValue9
 t37:=underlying22
 a37:=isAgg22
 z37:=sizeOf22
 v37:=zeroValue22
 t70:=underlying38
 a70:=isAgg38
 z70:=sizeOf38
 v70:=zeroValue38
 t72:=underlying40
 a72:=isAgg40
 z72:=sizeOf40
 v72:=zeroValue40
 t127:=underlying90
 a127:=isAgg90
 z127:=sizeOf90
 v127:=zeroValue90}
def asp:Go.Shelf.Ren:=⟨fun|171=>25|243=>41|246=>59|283=>107|284=>108|285=>109|286=>110|129=>159|317=>158|318=>160|319=>161|320=>162|337=>209|338=>210|n=>n,fun|3=>3|9=>9|2=>2|4=>4|171=>169|0=>0|53=>170|37=>22|5=>5|173=>173|212=>228|51=>68|20=>20|213=>229|46=>142|232=>290|233=>291|n=>n,fun|17=>2|18=>5|19=>6|n=>n⟩
theorem aso:Go.Proofs.Lays.n171 prog asp:={
 mixed:=by kernel_rfl
 f129:=func159.trans (congrArg some<|by kernel_rfl)
 f171:=func25.trans (congrArg some<|by kernel_rfl)
 f243:=func41.trans (congrArg some<|by kernel_rfl)
 f246:=func59.trans (congrArg some<|by kernel_rfl)
 f283:=func107.trans (congrArg some<|by kernel_rfl)
 f284:=func108.trans (congrArg some<|by kernel_rfl)
 f285:=func109.trans (congrArg some<|by kernel_rfl)
 f286:=func110.trans (congrArg some<|by kernel_rfl)
 f317:=func158.trans (congrArg some<|by kernel_rfl)
 f318:=func160.trans (congrArg some<|by kernel_rfl)
 f319:=func161.trans (congrArg some<|by kernel_rfl)
 f320:=func162.trans (congrArg some<|by kernel_rfl)
 f337:=func209.trans (congrArg some<|by kernel_rfl)
 f338:=func210.trans (congrArg some<|by kernel_rfl)
 t0:=underlying0
 a0:=isAgg0
 z0:=sizeOf0
 v0:=zeroValue0
 t2:=underlying2
 a2:=isAgg2
 z2:=sizeOf2
 v2:=zeroValue2
 t3:=underlying3
 a3:=isAgg3
 z3:=sizeOf3
 v3:=zeroValue3
 t4:=underlying4
 a4:=isAgg4
 z4:=sizeOf4
 v4:=zeroValue4
 t5:=underlying5
 a5:=isAgg5
 z5:=sizeOf5
 v5:=zeroValue5
 t9:=underlying9
 a9:=isAgg9
 z9:=sizeOf9
 v9:=zeroValue9
 t20:=underlying20
 a20:=isAgg20
 z20:=sizeOf20
 v20:=zeroValue20
 t37:=underlying22
 a37:=isAgg22
 z37:=sizeOf22
 v37:=zeroValue22
 t46:=underlying142
 a46:=isAgg142
 z46:=sizeOf142
 v46:=zeroValue142
 t51:=underlying68
 a51:=isAgg68
 z51:=sizeOf68
 v51:=zeroValue68
 t53:=underlying170
 a53:=isAgg170
 z53:=sizeOf170
 v53:=zeroValue170
 t171:=underlying169
 a171:=isAgg169
 z171:=sizeOf169
 v171:=zeroValue169
 t173:=underlying173
 a173:=isAgg173
 z173:=sizeOf173
 v173:=zeroValue173
 t212:=underlying228
 a212:=isAgg228
 z212:=sizeOf228
 v212:=zeroValue228
 t213:=underlying229
 a213:=isAgg229
 z213:=sizeOf229
 t232:=underlying290
 a232:=isAgg290
 z232:=sizeOf290
 v232:=zeroValue290
 t233:=underlying291
 a233:=isAgg291
 z233:=sizeOf291
 v233:=zeroValue291
 g17:=by kernel_rfl
 g18:=by kernel_rfl
 g19:=by kernel_rfl}
def asr:Go.Shelf.Ren:=⟨fun|171=>25|243=>41|246=>59|283=>107|284=>108|285=>109|286=>110|129=>159|317=>158|318=>160|319=>161|320=>162|337=>209|338=>210|n=>n,fun|3=>3|9=>9|2=>2|4=>4|171=>169|0=>0|53=>170|37=>22|5=>5|173=>173|212=>228|51=>68|20=>20|213=>229|46=>142|232=>290|233=>291|n=>n,fun|17=>2|18=>5|19=>6|n=>n⟩
theorem asq:Go.Proofs.LaysM.n171 prog asr:={
 mixed:=by kernel_rfl
 f129:=func159.trans (congrArg some<|by kernel_rfl)
 f171:=func25.trans (congrArg some<|by kernel_rfl)
 f243:=func41.trans (congrArg some<|by kernel_rfl)
 f246:=func59.trans (congrArg some<|by kernel_rfl)
 f283:=func107.trans (congrArg some<|by kernel_rfl)
 f284:=func108.trans (congrArg some<|by kernel_rfl)
 f285:=func109.trans (congrArg some<|by kernel_rfl)
 f286:=func110.trans (congrArg some<|by kernel_rfl)
 f317:=func158.trans (congrArg some<|by kernel_rfl)
 f318:=func160.trans (congrArg some<|by kernel_rfl)
 f319:=func161.trans (congrArg some<|by kernel_rfl)
 f320:=func162.trans (congrArg some<|by kernel_rfl)
 f337:=func209.trans (congrArg some<|by kernel_rfl)
 f338:=func210.trans (congrArg some<|by kernel_rfl)
 t0:=underlying0
 a0:=isAgg0
 z0:=sizeOf0
 v0:=zeroValue0
 t2:=underlying2
 a2:=isAgg2
 z2:=sizeOf2
 v2:=zeroValue2
 t3:=underlying3
 a3:=isAgg3
 z3:=sizeOf3
 v3:=zeroValue3
 t4:=underlying4
 a4:=isAgg4
 z4:=sizeOf4
 v4:=zeroValue4
 t5:=underlying5
 a5:=isAgg5
 z5:=sizeOf5
 v5:=zeroValue5
 t9:=underlying9
 a9:=isAgg9
 z9:=sizeOf9
 v9:=zeroValue9
 t20:=underlying20
 a20:=isAgg20
 z20:=sizeOf20
 v20:=zeroValue20
 t37:=underlying22
 a37:=isAgg22
 z37:=sizeOf22
 v37:=zeroValue22
 t46:=underlying142
 a46:=isAgg142
 z46:=sizeOf142
 v46:=zeroValue142
 t51:=underlying68
 a51:=isAgg68
 z51:=sizeOf68
 v51:=zeroValue68
 t53:=underlying170
 a53:=isAgg170
 z53:=sizeOf170
 v53:=zeroValue170
 t171:=underlying169
 a171:=isAgg169
 z171:=sizeOf169
 v171:=zeroValue169
 t173:=underlying173
 a173:=isAgg173
 z173:=sizeOf173
 v173:=zeroValue173
 t212:=underlying228
 a212:=isAgg228
 z212:=sizeOf228
 v212:=zeroValue228
 t213:=underlying229
 a213:=isAgg229
 z213:=sizeOf229
 t232:=underlying290
 a232:=isAgg290
 z232:=sizeOf290
 v232:=zeroValue290
 t233:=underlying291
 a233:=isAgg291
 z233:=sizeOf291
 v233:=zeroValue291
 g17:=by kernel_rfl
 g18:=by kernel_rfl
 g19:=by kernel_rfl
 i0:=by kernel_rfl
 i2:=by kernel_rfl
 i3:=by kernel_rfl
 i4:=by kernel_rfl
 i5:=by kernel_rfl
 i9:=by kernel_rfl
 i20:=by kernel_rfl
 i37:=by kernel_rfl
 i46:=by kernel_rfl
 i51:=by kernel_rfl
 i53:=by kernel_rfl
 i171:=by kernel_rfl
 i173:=by kernel_rfl
 i212:=by kernel_rfl
 i232:=by kernel_rfl
 i233:=by kernel_rfl
 m17:=by kernel_rfl
 m18:=by kernel_rfl
 m19:=by kernel_rfl}
end Go.Proofs
namespace Go.Proofs.Tst
open Go Fw Go.Proofs Go.Shelf Go.RowKit Go.Lib Tryz
variable (w0:World)(G0:PH)
def mR (G:PH):Prop:=∃t fz,G 2=some (.cells (Lib.pow10Tab.map fun z=>Value.int .u64 z).toArray t fz)
theorem mR.up {G G':PH}(h:mR G)(hle:an G G'):mR G':=by
 obtain⟨t,fz,h⟩:=h;exact⟨t,fz,hle _ _ h⟩
theorem abp:prog.globalNamed "internal/strconv.uint64pow10" =some 2:=by kernel_rfl
theorem aAr {W:World}(h:Lib.TabIs prog W "internal/strconv.uint64pow10" .u64 Lib.pow10Tab):mR (uw W):=by
 unfold Lib.TabIs World.var? at h;rw[abp]at h;simp only[Option.bind_some]at h;split at h
 ·rename_i cs t fz e;cases h;exact⟨t,fz,e⟩
 cases h
theorem mR.is {G:PH}{w:World}(h:mR G)(hs:aE G w):Lib.TabIs prog w "internal/strconv.uint64pow10" .u64 Lib.pow10Tab:=by
 obtain⟨t,fz,h⟩:=h;have:=hs _ _ h;unfold Lib.TabIs World.var?;rw[abp];simp only[Option.bind_some,this]
theorem Yr (hG:aE G0 w0)(n:Int)(hn:0≤n∧n<1000000)(eN:mR G0):Calls prog 25 #[.int .i64 n] w0 (b8 w0<|str<|Go.Lib.decDigits n.toNat):=by
 refine Calls.mono (show Calls prog 25 #[.int .i64 n] w0 _ from Any.strconv_Itoa asq n oM oM w0<|eN.is hG) ?_;rintro e w' ⟨rfl,k,os,rfl⟩;refine⟨by rw[Lib.itoa,if_neg oM],rfl,rfl,rfl,?_,fun b hb=>?_⟩
 ·show w0.heap.size≤(w0.heap++os).size;simp
 show(w0.heap++os)[b]? = w0.heap[b]?;exact Array.getElem?_append_left hb
end Go.Proofs.Tst
namespace Go.Proofs.Tst
open Go Fw Tryz
variable (w0:World)(G0:PH)
theorem eh:kS prog 37 [(0,1),(1,1),(2,1)] [.slice none 0 0,.slice none 0 0,.slice none 0 0]:=mg zeroValue37 runUnderlying37 (fun w=>by simp[sizeOf33,sizeOf34,sizeOf35])
theorem ad7:kS prog 42 [(0,3),(3,2)] [.slice none 0 0,.slice none 0 0,.slice none 0 0,.pointer none,.slice none 0 0]:=mg zeroValue42 runUnderlying42 (fun w=>by simp[sizeOf37,sizeOf40])
theorem TH:kS prog 53 [(0,1),(1,1)] [.slice none 0 0,.int .i64 0]:=mg zeroValue53 runUnderlying53 (fun w=>by simp[sizeOf3,sizeOf22])
theorem ad8:kS prog 57 [] []:=mg zeroValue57 runUnderlying57 (fun w=>by simp[])
theorem Lb:kS prog 77 [(0,1),(1,1)] [.map none,.pointer none]:=mg zeroValue77 runUnderlying77 (fun w=>by simp[sizeOf74,sizeOf75])
theorem ad9:kS prog 80 [(0,2),(2,2),(4,1)] [.int .i32 0,.int .u32 0,.map none,.pointer none,.slice none 0 0]:=mg zeroValue80 runUnderlying80 (fun w=>by simp[sizeOf72,sizeOf77,sizeOf78])
theorem Hk:kS prog 84 [(0,1),(1,1),(2,1)] [.int .i64 0,.slice none 0 0,.int .i64 0]:=mg zeroValue84 runUnderlying84 (fun w=>by simp[sizeOf3,sizeOf82])
theorem uC:kS prog 102 [(0,1),(1,1),(2,1),(3,1)] [str [],.int .i64 0,.int .i64 0,.nilFunc]:=mg zeroValue102 runUnderlying102 (fun w=>by simp[sizeOf3,sizeOf9,sizeOf100])
theorem ad5:kS prog 107 [(0,1)] [str []]:=mg zeroValue107 runUnderlying107 (fun w=>by simp[sizeOf9])
theorem TF:kS prog 118 [(0,1),(1,1),(2,1)] [.int .i64 0,.int .i64 0,.pointer none]:=mg zeroValue118 runUnderlying118 (fun w=>by simp[sizeOf3,sizeOf115])
theorem Co:kS prog 122 [(0,1),(1,1)] [str [],.slice none 0 0]:=mg zeroValue122 runUnderlying122 (fun w=>by simp[sizeOf9,sizeOf34])
theorem AA:kS prog 128 [(0,1),(1,1),(2,1)] [str [],.bool false,.slice none 0 0]:=mg zeroValue128 runUnderlying128 (fun w=>by simp[sizeOf4,sizeOf9,sizeOf82])
theorem yo:kS prog 132 [(0,1),(1,1),(2,1)] [.int .i64 0,str [],.slice none 0 0]:=mg zeroValue132 runUnderlying132 (fun w=>by simp[sizeOf3,sizeOf9,sizeOf82])
theorem Hi:kS prog 151 [(0,1),(1,1)] [str [],.pointer none]:=mg zeroValue151 runUnderlying151 (fun w=>by simp[sizeOf9,sizeOf75])
theorem TG:kS prog 183 [(0,1),(1,1),(2,1),(3,1)] [.int .i64 0,str [],.bool false,.slice none 0 0]:=mg zeroValue183 runUnderlying183 (fun w=>by simp[sizeOf3,sizeOf4,sizeOf9,sizeOf82])
theorem Hj:kS prog 207 [(0,1),(1,1),(2,1),(3,1)] [str [],.bool false,.slice none 0 0,.slice none 0 0]:=mg zeroValue207 runUnderlying207 (fun w=>by simp[sizeOf4,sizeOf9,sizeOf82,sizeOf146])
theorem Cp:kS prog 231 [(0,1),(1,1)] [.slice none 0 0,.slice none 0 0]:=mg zeroValue231 runUnderlying231 (fun w=>by simp[sizeOf33,sizeOf34])
theorem ad6:kS prog 327 [(0,1),(1,1)] [.slice none 0 0,.int .i64 0]:=mg zeroValue327 runUnderlying327 (fun w=>by simp[sizeOf3,sizeOf82])
end Go.Proofs.Tst
namespace Go.Proofs.Tst
open Go Fw Tryz
instance:CF prog 105:=⟨call105⟩
instance:CF prog 111:=⟨call111⟩
instance:CF prog 112:=⟨call112⟩
instance:CF prog 113:=⟨call113⟩
instance:CF prog 114:=⟨call114⟩
instance:CF prog 115:=⟨call115⟩
instance:CF prog 116:=⟨call116⟩
instance:CF prog 117:=⟨call117⟩
instance:CF prog 118:=⟨call118⟩
instance:CF prog 119:=⟨call119⟩
instance:CF prog 12:=⟨call12⟩
instance:CF prog 120:=⟨call120⟩
instance:CF prog 121:=⟨call121⟩
instance:CF prog 122:=⟨call122⟩
instance:CF prog 123:=⟨call123⟩
instance:CF prog 124:=⟨call124⟩
instance:CF prog 125:=⟨call125⟩
instance:CF prog 126:=⟨call126⟩
instance:CF prog 127:=⟨call127⟩
instance:CF prog 128:=⟨call128⟩
instance:CF prog 129:=⟨call129⟩
instance:CF prog 13:=⟨call13⟩
instance:CF prog 130:=⟨call130⟩
instance:CF prog 131:=⟨call131⟩
instance:CF prog 132:=⟨call132⟩
instance:CF prog 135:=⟨call135⟩
instance:CF prog 136:=⟨call136⟩
instance:CF prog 137:=⟨call137⟩
instance:CF prog 138:=⟨call138⟩
instance:CF prog 139:=⟨call139⟩
instance:CF prog 14:=⟨call14⟩
instance:CF prog 140:=⟨call140⟩
instance:CF prog 141:=⟨call141⟩
instance:CF prog 142:=⟨call142⟩
instance:CF prog 143:=⟨call143⟩
instance:CF prog 147:=⟨call147⟩
instance:CF prog 148:=⟨call148⟩
instance:CF prog 149:=⟨call149⟩
instance:CF prog 15:=⟨call15⟩
instance:CF prog 150:=⟨call150⟩
instance:CF prog 151:=⟨call151⟩
instance:CF prog 16:=⟨call16⟩
instance:CF prog 163:=⟨call163⟩
instance:CF prog 164:=⟨call164⟩
instance:CF prog 165:=⟨call165⟩
instance:CF prog 166:=⟨call166⟩
instance:CF prog 167:=⟨call167⟩
instance:CF prog 168:=⟨call168⟩
instance:CF prog 169:=⟨call169⟩
instance:CF prog 17:=⟨call17⟩
instance:CF prog 170:=⟨call170⟩
instance:CF prog 171:=⟨call171⟩
instance:CF prog 172:=⟨call172⟩
instance:CF prog 173:=⟨call173⟩
instance:CF prog 174:=⟨call174⟩
instance:CF prog 175:=⟨call175⟩
instance:CF prog 176:=⟨call176⟩
instance:CF prog 177:=⟨call177⟩
instance:CF prog 178:=⟨call178⟩
instance:CF prog 179:=⟨call179⟩
instance:CF prog 18:=⟨call18⟩
instance:CF prog 180:=⟨call180⟩
instance:CF prog 181:=⟨call181⟩
instance:CF prog 182:=⟨call182⟩
instance:CF prog 183:=⟨call183⟩
instance:CF prog 184:=⟨call184⟩
instance:CF prog 185:=⟨call185⟩
instance:CF prog 186:=⟨call186⟩
instance:CF prog 187:=⟨call187⟩
instance:CF prog 188:=⟨call188⟩
instance:CF prog 189:=⟨call189⟩
instance:CF prog 19:=⟨call19⟩
instance:CF prog 190:=⟨call190⟩
instance:CF prog 191:=⟨call191⟩
instance:CF prog 193:=⟨call193⟩
instance:CF prog 194:=⟨call194⟩
instance:CF prog 195:=⟨call195⟩
instance:CF prog 196:=⟨call196⟩
instance:CF prog 197:=⟨call197⟩
instance:CF prog 198:=⟨call198⟩
instance:CF prog 20:=⟨call20⟩
instance:CF prog 21:=⟨call21⟩
instance:CF prog 211:=⟨call211⟩
instance:CF prog 212:=⟨call212⟩
instance:CF prog 213:=⟨call213⟩
instance:CF prog 214:=⟨call214⟩
instance:CF prog 215:=⟨call215⟩
instance:CF prog 216:=⟨call216⟩
instance:CF prog 217:=⟨call217⟩
instance:CF prog 218:=⟨call218⟩
instance:CF prog 219:=⟨call219⟩
instance:CF prog 22:=⟨call22⟩
instance:CF prog 220:=⟨call220⟩
instance:CF prog 221:=⟨call221⟩
instance:CF prog 222:=⟨call222⟩
instance:CF prog 223:=⟨call223⟩
instance:CF prog 224:=⟨call224⟩
instance:CF prog 225:=⟨call225⟩
instance:CF prog 226:=⟨call226⟩
instance:CF prog 227:=⟨call227⟩
instance:CF prog 228:=⟨call228⟩
instance:CF prog 229:=⟨call229⟩
instance:CF prog 23:=⟨call23⟩
instance:CF prog 230:=⟨call230⟩
instance:CF prog 231:=⟨call231⟩
instance:CF prog 232:=⟨call232⟩
instance:CF prog 233:=⟨call233⟩
instance:CF prog 234:=⟨call234⟩
instance:CF prog 235:=⟨call235⟩
instance:CF prog 236:=⟨call236⟩
instance:CF prog 24:=⟨call24⟩
instance:CF prog 245:=⟨call245⟩
instance:CF prog 246:=⟨call246⟩
instance:CF prog 247:=⟨call247⟩
instance:CF prog 248:=⟨call248⟩
instance:CF prog 249:=⟨call249⟩
instance:CF prog 25:=⟨call25⟩
instance:CF prog 250:=⟨call250⟩
instance:CF prog 253:=⟨call253⟩
instance:CF prog 254:=⟨call254⟩
instance:CF prog 255:=⟨call255⟩
instance:CF prog 256:=⟨call256⟩
instance:CF prog 257:=⟨call257⟩
instance:CF prog 258:=⟨call258⟩
instance:CF prog 259:=⟨call259⟩
instance:CF prog 26:=⟨call26⟩
instance:CF prog 260:=⟨call260⟩
instance:CF prog 263:=⟨call263⟩
instance:CF prog 264:=⟨call264⟩
instance:CF prog 265:=⟨call265⟩
instance:CF prog 266:=⟨call266⟩
instance:CF prog 267:=⟨call267⟩
instance:CF prog 268:=⟨call268⟩
instance:CF prog 27:=⟨call27⟩
instance:CF prog 277:=⟨call277⟩
instance:CF prog 278:=⟨call278⟩
instance:CF prog 279:=⟨call279⟩
instance:CF prog 28:=⟨call28⟩
instance:CF prog 281:=⟨call281⟩
instance:CF prog 283:=⟨call283⟩
instance:CF prog 284:=⟨call284⟩
instance:CF prog 285:=⟨call285⟩
instance:CF prog 29:=⟨call29⟩
instance:CF prog 293:=⟨call293⟩
instance:CF prog 294:=⟨call294⟩
instance:CF prog 296:=⟨call296⟩
instance:CF prog 297:=⟨call297⟩
instance:CF prog 298:=⟨call298⟩
instance:CF prog 299:=⟨call299⟩
instance:CF prog 30:=⟨call30⟩
instance:CF prog 300:=⟨call300⟩
instance:CF prog 301:=⟨call301⟩
instance:CF prog 31:=⟨call31⟩
instance:CF prog 310:=⟨call310⟩
instance:CF prog 32:=⟨call32⟩
instance:CF prog 33:=⟨call33⟩
instance:CF prog 34:=⟨call34⟩
instance:CF prog 35:=⟨call35⟩
instance:CF prog 36:=⟨call36⟩
instance:CF prog 37:=⟨call37⟩
instance:CF prog 38:=⟨call38⟩
instance:CF prog 39:=⟨call39⟩
instance:CF prog 40:=⟨call40⟩
instance:CF prog 42:=⟨call42⟩
instance:CF prog 43:=⟨call43⟩
instance:CF prog 44:=⟨call44⟩
instance:CF prog 45:=⟨call45⟩
instance:CF prog 46:=⟨call46⟩
instance:CF prog 47:=⟨call47⟩
instance:CF prog 48:=⟨call48⟩
instance:CF prog 49:=⟨call49⟩
instance:CF prog 50:=⟨call50⟩
instance:CF prog 51:=⟨call51⟩
instance:CF prog 53:=⟨call53⟩
instance:CF prog 54:=⟨call54⟩
instance:CF prog 55:=⟨call55⟩
instance:CF prog 56:=⟨call56⟩
instance:CF prog 57:=⟨call57⟩
instance:CF prog 58:=⟨call58⟩
instance:CF prog 60:=⟨call60⟩
instance:CF prog 61:=⟨call61⟩
instance:CF prog 62:=⟨call62⟩
instance:CF prog 63:=⟨call63⟩
instance:CF prog 64:=⟨call64⟩
instance:CF prog 65:=⟨call65⟩
instance:CF prog 66:=⟨call66⟩
instance:CF prog 67:=⟨call67⟩
instance:CF prog 68:=⟨call68⟩
instance:CF prog 69:=⟨call69⟩
instance:CF prog 70:=⟨call70⟩
instance:CF prog 71:=⟨call71⟩
instance:CF prog 72:=⟨call72⟩
instance:CF prog 73:=⟨call73⟩
instance:CF prog 74:=⟨call74⟩
instance:CF prog 75:=⟨call75⟩
instance:CF prog 76:=⟨call76⟩
instance:CF prog 81:=⟨call81⟩
instance:CF prog 82:=⟨call82⟩
instance:CF prog 83:=⟨call83⟩
instance:CF prog 84:=⟨call84⟩
instance:CF prog 85:=⟨call85⟩
instance:CF prog 86:=⟨call86⟩
instance:CF prog 87:=⟨call87⟩
instance:CF prog 88:=⟨call88⟩
instance:CF prog 89:=⟨call89⟩
instance:CF prog 91:=⟨call91⟩
instance:CF prog 92:=⟨call92⟩
instance:CF prog 93:=⟨call93⟩
instance:CF prog 94:=⟨call94⟩
instance:CF prog 95:=⟨call95⟩
instance:CF prog 96:=⟨call96⟩
instance:CF prog 97:=⟨call97⟩
instance:FA prog 102 0 0:=⟨_,_,_,runUnderlying102,rfl,sizeOf9,rfl⟩
instance:FA prog 102 1 1:=⟨_,_,_,runUnderlying102,rfl,sizeOf3,rfl⟩
instance:FA prog 102 2 2:=⟨_,_,_,runUnderlying102,rfl,sizeOf3,rfl⟩
instance:FA prog 102 3 3:=⟨_,_,_,runUnderlying102,rfl,sizeOf100,rfl⟩
instance:FA prog 118 0 0:=⟨_,_,_,runUnderlying118,rfl,sizeOf3,rfl⟩
instance:FA prog 118 1 1:=⟨_,_,_,runUnderlying118,rfl,sizeOf3,rfl⟩
instance:FA prog 118 2 2:=⟨_,_,_,runUnderlying118,rfl,sizeOf115,rfl⟩
instance:FA prog 122 0 0:=⟨_,_,_,runUnderlying122,rfl,sizeOf9,rfl⟩
instance:FA prog 122 1 1:=⟨_,_,_,runUnderlying122,rfl,sizeOf34,rfl⟩
instance:FA prog 128 0 0:=⟨_,_,_,runUnderlying128,rfl,sizeOf9,rfl⟩
instance:FA prog 128 1 1:=⟨_,_,_,runUnderlying128,rfl,sizeOf4,rfl⟩
instance:FA prog 128 2 2:=⟨_,_,_,runUnderlying128,rfl,sizeOf82,rfl⟩
instance:FA prog 132 0 0:=⟨_,_,_,runUnderlying132,rfl,sizeOf3,rfl⟩
instance:FA prog 132 1 1:=⟨_,_,_,runUnderlying132,rfl,sizeOf9,rfl⟩
instance:FA prog 132 2 2:=⟨_,_,_,runUnderlying132,rfl,sizeOf82,rfl⟩
instance:FA prog 151 0 0:=⟨_,_,_,runUnderlying151,rfl,sizeOf9,rfl⟩
instance:FA prog 151 1 1:=⟨_,_,_,runUnderlying151,rfl,sizeOf75,rfl⟩
instance:FA prog 183 0 0:=⟨_,_,_,runUnderlying183,rfl,sizeOf3,rfl⟩
instance:FA prog 183 1 1:=⟨_,_,_,runUnderlying183,rfl,sizeOf9,rfl⟩
instance:FA prog 183 2 2:=⟨_,_,_,runUnderlying183,rfl,sizeOf4,rfl⟩
instance:FA prog 183 3 3:=⟨_,_,_,runUnderlying183,rfl,sizeOf82,rfl⟩
instance:FA prog 207 0 0:=⟨_,_,_,runUnderlying207,rfl,sizeOf9,rfl⟩
instance:FA prog 207 1 1:=⟨_,_,_,runUnderlying207,rfl,sizeOf4,rfl⟩
instance:FA prog 207 2 2:=⟨_,_,_,runUnderlying207,rfl,sizeOf82,rfl⟩
instance:FA prog 207 3 3:=⟨_,_,_,runUnderlying207,rfl,sizeOf146,rfl⟩
instance:FA prog 231 0 0:=⟨_,_,_,runUnderlying231,rfl,sizeOf33,rfl⟩
instance:FA prog 231 1 1:=⟨_,_,_,runUnderlying231,rfl,sizeOf34,rfl⟩
instance:FA prog 327 0 0:=⟨_,_,_,runUnderlying327,rfl,sizeOf82,rfl⟩
instance:FA prog 327 1 1:=⟨_,_,_,runUnderlying327,rfl,sizeOf3,rfl⟩
instance:FA prog 37 0 0:=⟨_,_,_,runUnderlying37,rfl,sizeOf33,rfl⟩
instance:FA prog 37 1 1:=⟨_,_,_,runUnderlying37,rfl,sizeOf34,rfl⟩
instance:FA prog 37 2 2:=⟨_,_,_,runUnderlying37,rfl,sizeOf35,rfl⟩
instance:FA prog 40 1 1:=⟨_,_,_,runUnderlying40,rfl,sizeOf22,rfl⟩
instance:FA prog 42 0 0:=⟨_,_,_,runUnderlying42,rfl,sizeOf37,rfl⟩
instance:FA prog 42 1 3:=⟨_,_,_,runUnderlying42,rfl,sizeOf40,rfl⟩
instance:FA prog 53 0 0:=⟨_,_,_,runUnderlying53,rfl,sizeOf22,rfl⟩
instance:FA prog 53 1 1:=⟨_,_,_,runUnderlying53,rfl,sizeOf3,rfl⟩
instance:FA prog 77 0 0:=⟨_,_,_,runUnderlying77,rfl,sizeOf74,rfl⟩
instance:FA prog 77 1 1:=⟨_,_,_,runUnderlying77,rfl,sizeOf75,rfl⟩
instance:FA prog 80 0 0:=⟨_,_,_,runUnderlying80,rfl,sizeOf72,rfl⟩
instance:FA prog 80 1 2:=⟨_,_,_,runUnderlying80,rfl,sizeOf77,rfl⟩
instance:FA prog 80 2 4:=⟨_,_,_,runUnderlying80,rfl,sizeOf78,rfl⟩
instance:FA prog 84 0 0:=⟨_,_,_,runUnderlying84,rfl,sizeOf3,rfl⟩
instance:FA prog 84 1 1:=⟨_,_,_,runUnderlying84,rfl,sizeOf82,rfl⟩
instance:FA prog 84 2 2:=⟨_,_,_,runUnderlying84,rfl,sizeOf3,rfl⟩
instance:AG prog 100 false:=⟨isAgg100⟩
instance:AG prog 102 true:=⟨isAgg102⟩
instance:AG prog 115 false:=⟨isAgg115⟩
instance:AG prog 122 true:=⟨isAgg122⟩
instance:AG prog 128 true:=⟨isAgg128⟩
instance:AG prog 132 true:=⟨isAgg132⟩
instance:AG prog 146 false:=⟨isAgg146⟩
instance:AG prog 151 true:=⟨isAgg151⟩
instance:AG prog 22 false:=⟨isAgg22⟩
instance:AG prog 231 true:=⟨isAgg231⟩
instance:AG prog 3 false:=⟨isAgg3⟩
instance:AG prog 32 false:=⟨isAgg32⟩
instance:AG prog 33 false:=⟨isAgg33⟩
instance:AG prog 34 false:=⟨isAgg34⟩
instance:AG prog 35 false:=⟨isAgg35⟩
instance:AG prog 37 true:=⟨isAgg37⟩
instance:AG prog 4 false:=⟨isAgg4⟩
instance:AG prog 5 false:=⟨isAgg5⟩
instance:AG prog 74 false:=⟨isAgg74⟩
instance:AG prog 75 false:=⟨isAgg75⟩
instance:AG prog 77 true:=⟨isAgg77⟩
instance:AG prog 78 false:=⟨isAgg78⟩
instance:AG prog 82 false:=⟨isAgg82⟩
instance:AG prog 84 true:=⟨isAgg84⟩
instance:AG prog 9 false:=⟨isAgg9⟩
instance:SZ prog 100 1:=⟨sizeOf100⟩
instance:SZ prog 102 4:=⟨sizeOf102⟩
instance:SZ prog 115 1:=⟨sizeOf115⟩
instance:SZ prog 122 2:=⟨sizeOf122⟩
instance:SZ prog 128 3:=⟨sizeOf128⟩
instance:SZ prog 132 3:=⟨sizeOf132⟩
instance:SZ prog 146 1:=⟨sizeOf146⟩
instance:SZ prog 151 2:=⟨sizeOf151⟩
instance:SZ prog 22 1:=⟨sizeOf22⟩
instance:SZ prog 231 2:=⟨sizeOf231⟩
instance:SZ prog 3 1:=⟨sizeOf3⟩
instance:SZ prog 33 1:=⟨sizeOf33⟩
instance:SZ prog 34 1:=⟨sizeOf34⟩
instance:SZ prog 35 1:=⟨sizeOf35⟩
instance:SZ prog 37 3:=⟨sizeOf37⟩
instance:SZ prog 4 1:=⟨sizeOf4⟩
instance:SZ prog 40 2:=⟨sizeOf40⟩
instance:SZ prog 5 1:=⟨sizeOf5⟩
instance:SZ prog 57 0:=⟨sizeOf57⟩
instance:SZ prog 72 2:=⟨sizeOf72⟩
instance:SZ prog 74 1:=⟨sizeOf74⟩
instance:SZ prog 75 1:=⟨sizeOf75⟩
instance:SZ prog 77 2:=⟨sizeOf77⟩
instance:SZ prog 78 1:=⟨sizeOf78⟩
instance:SZ prog 82 1:=⟨sizeOf82⟩
instance:SZ prog 84 3:=⟨sizeOf84⟩
instance:SZ prog 9 1:=⟨sizeOf9⟩
instance:UL prog 146 (.slice 75):=⟨underlying146⟩
instance:UL prog 22 (.slice 5):=⟨underlying22⟩
instance:UL prog 279 .string:=⟨underlying279⟩
instance:UL prog 292 (.slice 82):=⟨underlying292⟩
instance:UL prog 33 (.slice 84):=⟨underlying33⟩
instance:UL prog 34 (.slice 128):=⟨underlying34⟩
instance:UL prog 35 (.slice 122):=⟨underlying35⟩
instance:UL prog 55 (.slice 9):=⟨underlying55⟩
instance:UL prog 78 (.slice 151):=⟨underlying78⟩
instance:UL prog 82 (.slice 3):=⟨underlying82⟩
instance:UL prog 9 .string:=⟨underlying9⟩
instance:UL prog 98 (.slice 102):=⟨underlying98⟩
instance:ZV prog 102 [str [],.int .i64 0,.int .i64 0,.nilFunc]:=⟨_,zeroValue102,rfl⟩
instance:ZV prog 122 [str [],.slice none 0 0]:=⟨_,zeroValue122,rfl⟩
instance:ZV prog 128 [str [],.bool false,.slice none 0 0]:=⟨_,zeroValue128,rfl⟩
instance:ZV prog 151 [str [],.pointer none]:=⟨_,zeroValue151,rfl⟩
instance:ZV prog 231 [.slice none 0 0,.slice none 0 0]:=⟨_,zeroValue231,rfl⟩
instance:ZV prog 3 [.int .i64 0]:=⟨_,zeroValue3,rfl⟩
instance:ZV prog 37 [.slice none 0 0,.slice none 0 0,.slice none 0 0]:=⟨_,zeroValue37,rfl⟩
instance:ZV prog 40 [.pointer none,.slice none 0 0]:=⟨_,zeroValue40,rfl⟩
instance:ZV prog 5 [.int .u8 0]:=⟨_,zeroValue5,rfl⟩
instance:ZV prog 57 []:=⟨_,zeroValue57,rfl⟩
instance:ZV prog 75 [.pointer none]:=⟨_,zeroValue75,rfl⟩
instance:ZV prog 77 [.map none,.pointer none]:=⟨_,zeroValue77,rfl⟩
instance:ZV prog 82 [.slice none 0 0]:=⟨_,zeroValue82,rfl⟩
instance:ZV prog 84 [.int .i64 0,.slice none 0 0,.int .i64 0]:=⟨_,zeroValue84,rfl⟩
instance:ZV prog 9 [str []]:=⟨_,zeroValue9,rfl⟩
end Go.Proofs.Tst
namespace Go.Proofs.Tst
open Go Fw Tryz
variable (w0:World)(G0:PH)
theorem zU (w0:World)(n:Int)(lo:Int)(hi:Int) :
  Calls prog 126 #[.int .i64 n,.int .i64 lo,.int .i64 hi] w0 (b8 w0<|.bool<|Sp.ff n lo hi):=by
 have H:=Hp.re w0;refine aO func126 Z ntmps126 Z<|q2<|aG Z<|q1<|pe 4 Z ?_;refine bm (t:=10) Z ?_ ?_
 ·intro ir;refine pe 5 Z<|q3<|ag<|au results126 Z ?_;exact H.rb (by unfold Sp.ff;rw[Bool.eq_iff_iff];simp;omega)
 intro iB;refine pe 5 Z<|q3<|ag<|au results126 Z ?_;exact H.rb (by unfold Sp.ff;rw[Bool.eq_iff_iff];simp;omega)
theorem Jx (w0:World)(s:Bs)(hs:s.length≤16777216) :
  Calls prog 119 #[str s] w0 (b8 w0<|.bool<|Sp.ep s):=by
 have H:=Hp.re w0;refine aO func119 Z ntmps119 Z<|q2<|aG Z<|q3<|ah<|q2<|aG Z<|q3<|aQ ?_;refine bU (hf:=(av 0 Z bz)) (J:=fun M w m=>∃(k:Nat) (G:PH),M=[(3,.int .i64 (k:Int))]∧an (fun _=>none) G∧Hp w0 (fun _=>none) [] w G []∧(k≤s.length∧(s.take k).all Sp.low=true)∧m=(s.length-k)) (h0:=⟨0,_,Z,an.refl _,H,?inv,Z⟩) (round:=?round);case inv=>exact⟨by omega,by simp⟩
 case round =>
  rintro _ _ _ ⟨k,_,rfl,cf,H,eE,rfl⟩;obtain⟨_,bo⟩:=eE;refine ah<|q2<|pe 2 Z<|lS Z<|pe 1 Z<|q3 ?_;refine ar Z ?_ ?_
  ·intro cY;refine ap<|ae<|ah<|aQ<|q2<|pe 2 Z<|qn underlying9 Z Z Z Z oM ?_;intro Hm Dt;have aj_:=Hm.toNat_lt;refine pe 2 Z ?_;refine bm (t:=14) Z ?_ ?_
   ·intro e6;refine pe 5 Z<|q3<|bC Z<|q2<|aG Z<|q3<|ag<|aM<|ak<|cK<|aM<|ak<|au results119 Z ?_;exact H.rb (by rw[Sp.ep,Sp.all_false Dt<|by simp[Sp.low];omega];rfl)
   intro eS;refine pe 2 Z<|gR Z<|qn underlying9 Z Z Z Z oM ?_;intro Ct A6;have aka:=Ct.toNat_lt;obtain rfl:Ct=Hm:=Option.some.inj<|A6.symm.trans Dt;refine pe 2 Z<|q3 ?_;refine ar Z ?_ ?_
   ·intro ei;refine q2<|aG Z<|q3<|ag<|aM<|ak<|cK<|aM<|ak<|au results119 Z ?_;exact H.rb (by rw[Sp.ep,Sp.all_false A6<|by simp[Sp.low];omega];rfl)
   intro ew;refine ap<|ba<|ae<|aL<|mV Z<|aD Z2<|aG Z<|aF ?_;refine bg (hJ:=⟨k+1,_,Z,cf,H,?inv,Z⟩) (hm:=?hm);case hm=>omega
   case inv=>exact⟨by omega,Sp.lV bo A6<|by simp[Sp.low];omega⟩
  intro c9;refine bM<|bK<|bQ<|bJ<|ae<|q2<|mV Z<|lS Z<|xr H Z2 (zU _ _ _ _) ?_;intro _ H;refine aG Z<|q3<|ag<|au results119 Z ?_;obtain rfl:k=s.length:=by omega
  rw[List.take_length]at bo;exact H.rb (by simp only[Sp.ep,Sp.ff,bo];rw[Bool.eq_iff_iff];simp;omega)
theorem arK (hG:aE G0 w0)(s:Bs)(hs:s.length≤16777216) :
  Calls prog 211 #[str s] w0 (jA w0 G0<|fun G v=>kA G v<|Sp.cut s):=by
 have H:=Hp.init hG;refine aO func211 Z ntmps211 Z<|q2<|aG Z<|q1<|bb H Z7 ?_;intro _ _ _ H;have H:=H.cM 1 (k:=0) (n:=0) rfl rfl (by decide);refine aG Z<|q1<|aG Z<|q3<|ah<|q2<|aG Z<|q3<|aQ ?_;refine bU (hf:=(av 0 Z<|av 2 Z bz)) (J:=fun M w m=>∃(v:Value) (n:Nat) (cs:List Value) (xs:List (Bs)) (f k:Nat) (G:PH),M=[(4,.int .i64 (f:Int)),(5,.int .i64 (k:Int)),(3,v)]∧an G0 G∧Hp w0 G0 [] w G [acc 9 1 v n cs]∧(ay dJ 1 G cs xs∧n=xs.length∧f≤k∧k≤s.length∧xs.length≤k∧xs++Sp.cut (s.drop f)=Sp.cut s∧∀j,f≤j→j<k→s[j]? ≠ some 47)∧m=(s.length-k)) (h0:=⟨_,_,_,[],0,0,_,Z,an.refl _,H,?inv,Z⟩) (round:=?round);case inv=>exact⟨(ay.nil (E:=dJ) (sz:=1) (G:=G0)),by first|rfl|simp|(simp;omega)|omega,(by simp)⟩
 case round =>
  rintro _ _ _ ⟨v,n,cs,xs,f,k,_,rfl,aX,H,cy,rfl⟩;obtain⟨dY,_,cy⟩:=cy;obtain⟨_,_,rfl⟩:=H.aH (k:=0) rfl;obtain⟨h1,_,_,h4,h5⟩:=cy;refine ah<|q2<|pe 2 Z<|lS Z<|pe 1 Z<|q3 ?_;refine ar Z ?_ ?_
  ·intro dk;refine ap<|ae<|ah<|aQ<|q2<|pe 2 Z<|qn underlying9 Z Z Z Z oM ?_;intro rD p4;have IK:=rD.toNat_lt;refine pe 1 Z<|q3 ?_;refine ar Z ?_ ?_
   ·intro cn;refine q2<|pe 4 Z<|aaf underlying9 Z Z Z Z oM oM oM<|bb H Z7 ?_;intro _ _ _ H;refine e7 0 H (sz:=1) (bytes:=16) underlying55 typeInfo9 ⟨_,Z,Z⟩ Z Z Z Z Z Z Z Z Z Z oM Z ?_;intro _ _ H;have p6:=dY.snoc (show dJ _ ((s.drop f).take<|k-f) _ from⟨rfl,(by (first|assumption|(refine Sp.jh ?_;assumption)|(simp;done)|(simp;omega)|omega))⟩) rfl;obtain⟨_,_,rfl⟩:=H.aH (k:=0) rfl;refine aG Z<|q3<|aL<|mV Z<|aD Z2<|aG Z<|aF<|ba<|ae<|aL<|mV Z<|aD Z2<|aG Z<|aF ?_;refine bg (hJ:=⟨_,_,_,(xs++[((s.drop f).take<|k-f)]),k+1,k+1,_,Z,aX,H,?inv,Z⟩) (hm:=?hm);case hm=>omega
    case inv=>exact⟨p6,aN,(by exact⟨by omega,by omega,by simp;omega,Sp.ae4 h4 h1 (p4▸congrArg some (Sp.YM oM)) h5,fun j g1 g2=>by omega⟩)⟩
   intro cj;refine ap<|ba<|ae<|aL<|mV Z<|aD Z2<|aG Z<|aF ?_;refine bg (hJ:=⟨_,_,_,xs,f,k+1,_,Z,aX,H,?inv,Z⟩) (hm:=?hm);case hm=>omega
   case inv=>exact⟨dY,aN,(by exact⟨by omega,by omega,by omega,h4,Sp.atj h5<|p4▸Sp.ZQ oM⟩)⟩
  intro cH;refine bM<|bK<|bQ<|bJ<|ae<|q2<|pe 3 Z<|BV underlying9 Z Z Z oM oM<|bb H Z7 ?_;intro _ _ _ H;refine e7 0 H (sz:=1) (bytes:=16) underlying55 typeInfo9 ⟨_,Z,Z⟩ Z Z Z Z Z Z Z Z Z Z oM Z ?_;intro _ _ H;have mo:=dY.snoc (show dJ _ (s.drop f) _ from⟨rfl,(by (first|assumption|(refine Sp.jh ?_;assumption)|(simp;done)|(simp;omega)|omega))⟩) rfl;obtain⟨_,_,rfl⟩:=H.aH (k:=0) rfl;refine aG Z<|q3<|ag<|au results211 Z ?_;obtain⟨_,H,ayT,aop⟩:=H.cI (k:=0) rfl mo aN aN;exact H.dD (by rw[←Sp.aeZ h4 h5 oM];exact aop)
theorem sQ (hG:aE G0 w0)(path:Bs)(eW:path.length≤16777216) :
  Calls prog 163 #[str path] w0 (b8 w0<|.bool<|Sp.cB path):=by
 have H:=Hp.init hG;refine aO func163 Z ntmps163 Z<|q2<|aG Z<|q1<|mV Z<|xc Z2 (arK _ _ H.sub _ eW) ?_;rintro _ _ ⟨G1,_,g1,rfl,kp⟩;have H:=H.grow g1;obtain⟨_,_,rfl⟩:=kp.shape;have I_:_≤1099511627776:=kp.lim;refine⟨_,Z,?_⟩;refine aG Z<|q3<|ah<|q2<|aG Z<|q3<|aQ ?_;refine bU (hf:=(av 3 Z bz)) (J:=fun M w m=>∃(k:Nat) (G:PH),M=[(4,.int .i64 (k:Int))]∧an G1 G∧Hp w0 G0 [] w G []∧(k≤(Sp.cut path).length∧((Sp.cut path).take k).all Sp.ep=true)∧m=((Sp.cut path).length-k)) (h0:=⟨0,_,Z,an.refl _,H,?inv,Z⟩) (round:=?round);case inv=>simp
 case round =>
  rintro _ _ _ ⟨k,_,rfl,aX,H,cy,rfl⟩;have kp:=kp.up aX;obtain⟨_,bo⟩:=cy;refine ah<|q2<|pe 2 Z<|lN Z<|pe 1 Z<|q3 ?_;refine ar Z ?_ ?_
  ·intro dk;refine ap<|ae<|ah<|aQ<|q2<|pe 2 Z<|iP k kp Z3 Z ?_;intro _ _ _ _ cC eV fv;obtain⟨rfl,jt⟩:=eV;have Qk:_≤16777216:=jt;refine lP H fv 0 Z2<|xr H Z2 (Jx _ _ jt) ?_;intro _ H;refine pe 1 Z<|q3 ?_;refine ar Z ?_ ?_
   ·intro ei;refine q2<|aG Z<|q3<|ag<|aM<|ak<|cK<|aM<|ak<|au results163 Z ?_;exact H.rb (by rw[Sp.cB,Sp.all_false cC ei];rfl)
   intro ew;refine ap<|ba<|ae<|aL<|mV Z<|aD Z2<|aG Z<|aF ?_;refine bg (hJ:=⟨k+1,_,Z,aX,H,?inv,Z⟩) (hm:=?hm);case hm=>omega
   case inv=>exact⟨by omega,Sp.lV bo cC ew⟩
  intro cH;refine bM<|bK<|bQ<|bJ<|ae<|q2<|mV Z<|lN Z<|pe 2 Z<|q3<|ag<|au results163 Z ?_;obtain rfl:k=(Sp.cut path).length:=by omega
  rw[List.take_length]at bo;exact H.rb (by simp only[Sp.cB,bo,Bool.true_and];rw[Bool.eq_iff_iff];simp;omega)
theorem arL (w0:World)(path:Bs)(eW:path.length≤16777216) :
  Calls prog 215 #[str path] w0 (b8 w0<|.int .i64<|Sp.BO path):=by
 have H:=Hp.re w0;refine aO func215 Z ntmps215 Z<|q2<|aG Z<|q1<|aG Z<|q3<|ah<|q2<|aG Z<|q3<|aQ ?_;refine bU (hf:=(av 0 Z<|av 2 Z bz)) (J:=fun M w m=>∃(k:Nat) (o:Option Nat) (G:PH),M=[(3,.int .i64<|Sp.dV o),(4,.int .i64 (k:Int))]∧an (fun _=>none) G∧Hp w0 (fun _=>none) [] w G []∧(k≤path.length∧o=(List.range k).foldl (Sp.lL path) none)∧m=(path.length-k)) (h0:=⟨0,none,_,Z,an.refl _,H,?inv,Z⟩) (round:=?round);case inv=>exact⟨by omega,rfl⟩
 case round =>
  rintro _ _ _ ⟨k,o,_,rfl,cf,H,eE,rfl⟩;obtain⟨_,bo⟩:=eE;refine ah<|q2<|pe 2 Z<|lS Z<|pe 1 Z<|q3 ?_;refine ar Z ?_ ?_
  ·intro cY;refine ap<|ae<|ah<|aQ<|q2<|pe 2 Z<|qn underlying9 Z Z Z Z oM ?_;intro Hm Dt;have aj_:=Hm.toNat_lt;refine pe 1 Z<|q3 ?_;refine ar Z ?_ ?_
   ·intro e6;refine aL<|pe 2 Z<|aF<|ba<|ae<|aL<|mV Z<|aD Z2<|aG Z<|aF ?_;refine bg (hJ:=⟨k+1,some k,_,Z,cf,H,?inv,Z⟩) (hm:=?hm);case hm=>omega
    case inv=>exact⟨by omega,by rw[Sp.JC,←bo,Sp.lL,Dt,if_pos<|congrArg some<|Sp.YM oM]⟩
   intro eS;refine ap<|ba<|ae<|aL<|mV Z<|aD Z2<|aG Z<|aF ?_;refine bg (hJ:=⟨k+1,o,_,Z,cf,H,?inv,Z⟩) (hm:=?hm);case hm=>omega
   case inv=>exact⟨by omega,by rw[Sp.JC,←bo,Sp.lL,Dt,if_neg<|Sp.ZQ oM]⟩
  intro c9;refine bM<|bK<|bQ<|bJ<|ae<|q2<|pe 2 Z<|q3<|ag<|au results215 Z ?_;obtain rfl:k=path.length:=by omega
  exact H.cg (congrArg (Value.int .i64)<|by rw[bo];rfl)
theorem arZ (w0:World)(path:Bs)(eW:path.length≤16777216) :
  Calls prog 176 #[str path] w0 (b8 w0<|str<|Sp.pz path):=by
 have hl:=Sp.arM path;have H:=Hp.re w0;refine aO func176 Z ntmps176 Z<|q2<|aG Z<|q1<|pe 2 Z<|xr H Z2 (arL _ _ eW) ?_;intro _ H;refine atK Z Z Z<|Gf underlying9 Z Z Z oM oM<|aG Z<|q3<|ag<|au results176 Z ?_;exact H.cg Z
theorem tQ (hG:aE G0 w0)(bt:Value)(list:List (aj))(az:cL G0 bt list)(path:Bs)(eW:path.length≤16777216) :
  Calls prog 113 #[bt,str path] w0 (b8 w0<|.int .i64<|Sp.iS list path):=by
 obtain⟨gg,gn,rfl⟩:=az.shape;have gj:=az.lm;have H:=Hp.init hG;refine aO func113 Z ntmps113 Z<|q2<|aG Z<|q3<|ah<|q2<|aG Z<|q3<|aQ ?_;refine bU (hf:=(av 0 Z<|av 1 Z bz)) (J:=fun M w m=>∃(k:Nat) (G:PH),M=[(5,.int .i64 (k:Int))]∧an G0 G∧Hp w0 G0 [] w G []∧(k≤list.length∧(∀j,j<k→∀y,list[j]? = some y→decide (y.path=path)=false))∧m=(list.length-k)) (h0:=⟨0,_,Z,an.refl _,H,?inv,Z⟩) (round:=?round);case inv=>exact⟨by omega,fun j hj=>by omega⟩
 case round =>
  rintro _ _ _ ⟨k,_,rfl,cf,H,eE,rfl⟩;have az:=az.up cf;obtain⟨_,bo⟩:=eE;refine ah<|q2<|pe 2 Z<|lN Z<|pe 1 Z<|q3 ?_;refine ar Z ?_ ?_
  ·intro cY;refine ap<|ae<|ah<|aQ<|q2<|pe 2 Z<|iP k az Z3 Z ?_;intro _ _ _ _ dU gA gX;obtain⟨_,_,_,rfl,_,_,_,_⟩:=ox gA;refine fA 0 Z<|lP H gX 0 Z2<|mV Z<|iJ Z Z Z<|q3 ?_;refine ar Z ?_ ?_
   ·intro e6;refine q2<|pe 2 Z<|q3<|ag<|aM<|ak<|cK<|aM<|ak<|au results113 Z ?_;exact H.cg (congrArg (Value.int .i64)<|by rw[Sp.iS,Sp.cD,Sp.wV bo dU<|by simp;exact e6];rfl)
   intro eS;refine ap<|ba<|ae<|aL<|mV Z<|aD Z2<|aG Z<|aF ?_;refine bg (hJ:=⟨k+1,_,Z,cf,H,?inv,Z⟩) (hm:=?hm);case hm=>omega
   case inv=>exact⟨by omega,Sp.JQ bo dU<|by simp;exact eS⟩
  intro c9;refine bM<|bK<|bQ<|bJ<|ae<|q2<|aG Z<|q3<|ag<|au results113 Z ?_;exact H.cg (congrArg (Value.int .i64)<|by rw[Sp.iS,Sp.cD,Sp.HI bo oM];rfl)
theorem Zh (hG:aE G0 w0)(bt:Value)(list:List (aj))(az:cL G0 bt list)(path:Bs)(eW:path.length≤16777216) :
  Calls prog 130 #[bt,str path] w0 (b8 w0<|.bool<|Sp.v7 list path):=by
 obtain⟨gg,gn,rfl⟩:=az.shape;have gj:=az.lm;have H:=Hp.init hG;refine aO func130 Z ntmps130 Z<|q2<|aG Z<|q1<|mV Z<|xr H Z2 (arZ _ _ eW) ?_;intro _ H;refine aG Z<|q1<|pe 2 Z ?_;refine xr H Z2 (tQ _ _ H.sub _ _ az _<|by (first|assumption|(refine Sp.jh ?_;assumption)|(simp;done)|(simp;omega)|omega)) ?_;intro _ H;refine aG Z<|q1<|mV Z<|iJ Z Z Z<|mV Z ?_;refine bm (t:=14) Z ?_ ?_
 ·intro dk;refine pe 3 Z<|eZ Z (cA Z Z)<|eZ Z (cA Z Z)<|eZ Z (cA Z Z)<|eZ Z (cA Z Z)<|eZ Z (cA Z Z)<|pe 3 Z<|q3<|ag<|au results130 Z ?_;exact H.rb (by simp[Sp.v7,dk])
 intro cH;refine pe 3 Z ?_;refine bm (t:=17) Z ?_ ?_
 ·intro e6;obtain⟨i,_,dG,ec,_,_,mx⟩:=Sp.oh e6;refine pe 2 Z<|gR Z<|iP i az Z3 ec ?_;intro _ _ _ _ ey jL nq;obtain⟨_,_,_,rfl,mx,_,_,_⟩:=ox jL;refine gR Z<|fA 1 Z<|gR Z<|lP H nq 1 Z2<|pe 3 Z<|q3<|ag<|au results130 Z ?_;exact H.rb (by simp[Sp.v7,cH,Sp.cD,dG,ey])
 intro eS;refine pe 8 Z<|q3<|ag<|au results130 Z ?_;exact H.rb (by simp[Sp.v7,cH,Sp.cD,Sp.oo eS])
theorem Zi (hG:aE G0 w0)(cx:List Value)(x:aj)(hx:dn G0 x cx) :
  Calls prog 129 #[.agg cx.toArray] w0 (b8 w0<|.bool<|Sp.fB x):=by
 obtain⟨_,_,_,rfl,dG,ax,_,_⟩:=ox hx;have H:=Hp.init hG;refine aO func129 Z ntmps129 Z<|q2<|cQ H Z Z Z ?_;intro b2 _ _ H;refine aG Z<|q3<|ah<|q2<|aG Z<|q3<|aQ ?_;obtain⟨zW,ze,H⟩:=H.name (k:=0) rfl;refine bU (hf:=(av 1 Z bz)) (J:=fun M w m=>∃(k:Nat) (G:PH),M=[(3,.int .i64 (k:Int))]∧an G0 G∧Hp w0 G0 [] w G [ai b2<|cl zW 128]∧(k≤x.ids.length∧(x.ids.take k).all (Sp.kJ x.dir)=true)∧m=(x.ids.length-k)) (h0:=⟨0,_,Z,an.refl _,H,?inv,Z⟩) (round:=?round);case inv=>exact⟨by omega,by simp⟩
 case round =>
  rintro _ _ _ ⟨k,_,rfl,cR,H,gi,rfl⟩;subst ze;have ax:=ax.up cR;obtain⟨_,bo⟩:=gi;refine ah<|q2<|mV Z<|fA 2 Z<|lB 0 H Z3<|lN Z<|pe 1 Z<|q3 ?_;refine ar Z ?_ ?_
  ·intro cn;refine ap<|ae<|ah<|aQ<|q2<|fA 1 Z<|lB 0 H Z3<|mV Z ?_;refine bm (t:=13) Z ?_ ?_
   ·intro ei;refine pe 8 Z<|q3<|bC Z<|q2<|aG Z<|q3<|ag<|aM<|ak<|cK<|aM<|ak<|au results129 Z ?_;exact H.rb (by rw[Sp.fB,Sp.all_false (c:=x.ids[k]) (List.getElem?_eq_getElem oM)<|by simp[Sp.kJ,ei]];rfl)
   intro ew;refine gR Z<|fA 2 Z<|gR Z<|lB 0 H Z3<|pe 1 Z<|gR Z<|iP k ax Z3 Z ?_;intro _ _ _ _ nU mW qf;obtain⟨rfl,_⟩:=mW;refine gR Z<|lP H qf 0 Z2<|gR Z<|xr H Z2 (zU _ _ _ _) ?_;intro _ H;refine pe 2 Z<|q3 ?_;refine ar Z ?_ ?_
   ·intro i_;refine q2<|aG Z<|q3<|ag<|aM<|ak<|cK<|aM<|ak<|au results129 Z ?_;exact H.rb (by rw[Sp.fB,Sp.all_false nU<|by simp[Sp.kJ, *]];rfl)
   intro j3;refine ap<|ba<|ae<|aL<|mV Z<|aD Z2<|aG Z<|aF ?_;refine bg (hJ:=⟨k+1,_,Z,cR,H,?inv,Z⟩) (hm:=?hm);case hm=>omega
   case inv=>exact⟨by omega,Sp.lV bo nU<|by simp[Sp.kJ, *]⟩
  intro cj;refine bM<|bK<|bQ<|bJ<|ae<|q2<|fA 0 Z<|lB 0 H Z3<|xr H Z2 (sQ _ _ H.sub _ dG) ?_;intro _ H;refine mV Z ?_;refine bm (t:=25) Z ?_ ?_
  ·intro j2;refine gR Z<|fA 2 Z<|gR Z<|lB 0 H Z3<|gR Z<|lN Z<|pe 3 Z<|q3<|ag<|au results129 Z ?_;obtain rfl:k=x.ids.length:=by omega
   rw[List.take_length]at bo;exact H.rb (by simp only[Sp.fB,bo,j2,Bool.true_and];rw[Bool.eq_iff_iff];simp;omega)
  intro jP;refine pe 6 Z<|q3<|ag<|au results129 Z ?_;exact H.rb (by simp[Sp.fB,jP])
theorem uy (hG:aE G0 w0)(bt:Value)(list:List (aj))(az:cL G0 bt list) :
  Calls prog 73 #[bt] w0 (b8 w0<|.bool<|Sp.cU list):=by
 obtain⟨gg,gn,rfl⟩:=az.shape;have gj:=az.lm;have H:=Hp.init hG;refine aO func73 Z ntmps73 Z<|q2<|aG Z<|q3<|ah<|q2<|aG Z<|q3<|aQ ?_;refine bU (hf:=(av 0 Z bz)) (J:=fun M w m=>∃(k:Nat) (G:PH),M=[(3,.int .i64 (k:Int))]∧an G0 G∧Hp w0 G0 [] w G []∧(k≤list.length∧∀j,j<k→Sp.J0 list j=true)∧m=(list.length-k)) (h0:=⟨0,_,Z,an.refl _,H,?inv,Z⟩) (round:=?round);case inv=>exact⟨by omega,fun j hj=>by omega⟩
 case round =>
  rintro _ _ _ ⟨k,G1,rfl,cf,H,eE,rfl⟩;have az:=az.up cf;obtain⟨_,bo⟩:=eE;refine ah<|q2<|pe 2 Z<|lN Z<|pe 1 Z<|q3 ?_;refine ar Z ?_ ?_
  ·intro cY;refine ap<|ae<|ah<|aQ<|ah<|cw [] 34 H kR Z ?_;intro _ H;have eT:=an.refl G1;refine dE 0 Z2<|dE 1 Z2 ?_;have IA:=az.len;obtain⟨_,_,z4,q4,MP,cC,zm,eV,fv,_⟩:=az.at (i:=k) oM;clear zm;obtain⟨_,_,_,rfl,jt,kr,_,_⟩:=ox eV;refine dI 2 3 k MP Z3 Z<|bc 3 Z kR Z (fun _ hK=>awu hK isAgg128 sizeOf128 Z fv Z)<|r1 4 Z<|xr H Z2 (Zi _ _ H.sub _ _ ⟨_,_,_,Z,jt,kr⟩) ?_;intro _ H;refine q4 H eT<|dE 5 Z2<|dE 6 Z2 ?_;refine mP (t:=16) Z ?_ ?_
   ·intro ei;refine dE 7 Z2<|dE 8 Z2<|dE 9 Z2<|fN 10 Z kR kR kR Z (cA Z Z)<|fN 11 Z kR kR kR Z (cA Z Z)<|fN 12 Z kR kR kR Z (cA Z Z)<|fN 13 Z kR kR kR Z (cA Z Z)<|fN 14 Z kR kR kR Z (cA Z Z)<|fN 15 Z kR kR kR Z (cA Z Z)<|fN 16 Z kR kR kR Z (cA Z Z)<|fN 17 Z kR kR kR Z (cA Z Z)<|fN 18 Z kR kR kR Z (cA Z Z)<|fN 19 Z kR kR kR Z (cA Z Z)<|fN 20 Z kR kR kR Z (cA Z Z)<|fN 21 Z kR kR kR Z (cA Z Z)<|dE 22 Z2 ?_;refine dE 23 Z2<|dE 24 Z2<|dE 25 Z2<|dE 26 Z2<|dE 27 Z2<|dE 28 Z2<|dE 29 Z2<|dE 30 Z2<|dE 31 Z2<|dE 32 Z2<|dE 33 Z2<|rz<|ae<|bC Z<|q2<|aG Z ?_;refine q3<|ag<|aM<|ak<|cK<|aM<|ak<|au results73 Z ?_;exact H.rb (by rw[Sp.cU,Sp.mJ (k:=k) oM<|by rw[Sp.wk cC];simp[Sp.sH, *]];rfl)
   intro ew;refine dE 7 Z2<|dE 8 Z2<|dE 9 Z2 ?_;refine mP (t:=19) Z ?_ ?_
   ·intro eB;have j5:k≠0:=by omega
    refine dE 10 Z2<|dE 11 Z2<|wH 12 Z kR Z (yl Z Z) (fun _ hK=>Ku Z Z oO) ?_;have IB:=az.len;obtain⟨_,_,_,_,uY,_,nk,mX,oW,_⟩:=az.at (i:=(k-1)) oM;clear nk;obtain⟨_,_,_,rfl,_,_,_,_⟩:=ox mX;refine dI 13 3 (k-1) uY Z3 oM<|dF 14 0 Z2<|dP 15 oW 0 Z3<|dE 16 Z2<|dE 17 Z2 ?_;have WC:=az.len;obtain⟨_,_,pI,_,Df,je,ni,pV,sj,_⟩:=az.at (i:=k) oM;clear ni;obtain⟨_,_,_,rfl,_,_,_,_⟩:=ox pV;have Qr:z4=pI:=Option.some.inj<|cC.symm.trans je;subst Qr;refine dI 18 3 k Df Z3 Z<|dF 19 0 Z2<|dP 20 sj 0 Z3<|wH 21 Z kR Z (yl Z Z) (fun _ hK=>abM Z Z)<|dE 22 Z2<|dE 23 Z2<|dE 24 Z2 ?_;refine mP (t:=34) Z ?_ ?_
    ·intro pZ;refine dE 25 Z2<|dE 26 Z2<|dE 27 Z2<|dE 28 Z2<|dE 29 Z2<|dE 30 Z2<|dE 31 Z2<|dE 32 Z2<|dE 33 Z2<|rz<|ae<|bC Z<|q2<|aG Z<|q3<|ag ?_;refine aM<|ak<|cK<|aM<|ak<|au results73 Z ?_;exact H.rb (by rw[Sp.cU,Sp.mJ (k:=k) oM<|by rw[Sp.wk cC];simp[Sp.sH, *]];rfl)
    intro qT;refine dE 25 Z2<|dE 26 Z2<|dE 27 Z2 ?_;have ajA:=az.len;obtain⟨_,_,z12,_,ML,q_,EG,uQ,zu,_⟩:=az.at (i:=k) oM;clear EG;obtain⟨_,_,_,rfl,NR,_,_,_⟩:=ox uQ;have Qs:z4=z12:=Option.some.inj<|cC.symm.trans q_;subst Qs;refine dI 28 3 k ML Z3 Z<|dF 29 0 Z2<|dP 30 zu 0 Z3<|r1 31 Z<|gR Z<|xr H Z2 (Zh _ _ H.sub _ _ az _ NR) ?_;intro _ H;refine q4 H eT<|dE 32 Z2<|dE 33 Z2<|rz<|ae ?_;refine ar Z ?_ ?_
    ·intro oC;refine q2<|aG Z<|q3<|ag<|aM<|ak<|cK<|aM<|ak<|au results73 Z ?_;exact H.rb (by rw[Sp.cU,Sp.mJ (k:=k) oM<|by rw[Sp.wk cC];simp[Sp.sH, *]];rfl)
    intro pg;refine ap<|ba<|ae<|aL<|mV Z<|aD Z2<|aG Z<|aF ?_;refine bg (hJ:=⟨k+1,_,Z,cf,H,?inv,Z⟩) (hm:=?hm);case hm=>omega
    case inv=>exact⟨by omega,Sp.rv bo<|by rw[Sp.wk cC];simp[Sp.sH, *]⟩
   intro eL;have j5:k=0:=by omega
   refine dE 10 Z2<|dE 11 Z2<|dE 12 Z2<|dE 13 Z2<|dE 14 Z2<|dE 15 Z2<|dE 16 Z2<|dE 17 Z2<|dE 18 Z2<|dE 19 Z2<|dE 20 Z2<|dE 21 Z2<|dE 22 Z2<|dE 23 Z2<|dE 24 Z2<|dE 25 Z2 ?_;refine dE 26 Z2<|dE 27 Z2 ?_;have Iz:=az.len;obtain⟨_,_,qA,_,Dh,zL,oS,yD,zx,_⟩:=az.at (i:=k) oM;clear oS;obtain⟨_,_,_,rfl,ai7,_,_,_⟩:=ox yD;have FI:z4=qA:=Option.some.inj<|cC.symm.trans zL;subst FI;refine dI 28 3 k Dh Z3 Z<|dF 29 0 Z2<|dP 30 zx 0 Z3<|r1 31 Z<|gR Z<|xr H Z2 (Zh _ _ H.sub _ _ az _ ai7) ?_;intro _ H;refine q4 H eT<|dE 32 Z2<|dE 33 Z2<|rz<|ae ?_;refine ar Z ?_ ?_
   ·intro Ia;refine q2<|aG Z<|q3<|ag<|aM<|ak<|cK<|aM<|ak<|au results73 Z ?_;exact H.rb (by rw[Sp.cU,Sp.mJ (k:=k) oM<|by rw[Sp.wk cC];simp[Sp.sH, *]];rfl)
   intro Ib;refine ap<|ba<|ae<|aL<|mV Z<|aD Z2<|aG Z<|aF ?_;refine bg (hJ:=⟨k+1,_,Z,cf,H,?inv,Z⟩) (hm:=?hm);case hm=>omega
   case inv=>exact⟨by omega,Sp.rv bo<|by rw[Sp.wk cC];simp[Sp.sH, *]⟩
  intro c9;refine bM<|bK<|bQ<|bJ<|ae<|q2<|mV Z<|lN Z<|pe 2 Z<|q3<|ag<|au results73 Z ?_;exact H.rb (by rw[Sp.cU,Sp.Au<|fun j hj=>bo j oM,Bool.true_and];rw[Bool.eq_iff_iff];simp;omega)
theorem Q3 (hG:aE G0 w0)(va:Value)(a:List (Int))(ha:dv G0 va a)(vb:Value)(b:List (Int))(hb:dv G0 vb b) :
  Calls prog 128 #[va,vb] w0 (b8 w0<|.bool<|Sp.iH a b):=by
 obtain⟨aa,ka,rfl⟩:=ha.shape;have ajN:=ha.lm;obtain⟨ab,kb,rfl⟩:=hb.shape;have ajO:=hb.lm;have H:=Hp.init hG;refine aO func128 Z ntmps128 Z<|q2<|aG Z<|q3<|ah<|q2<|mV Z<|lN Z<|mV Z<|lN Z<|pe 1 Z<|q3 ?_;refine ar Z ?_ ?_
 ·intro ir;refine q2<|aG Z<|q3<|ag<|ak<|au results128 Z ?_;exact H.rb (by unfold Sp.iH;exact Sp.ZP oM)
 intro iB;refine ap<|ae<|ah<|q2<|aG Z<|q3<|aQ ?_;refine bU (hf:=(av 0 Z<|av 1 Z bz)) (J:=fun M w m=>∃(k:Nat) (G:PH),M=[(5,.int .i64 (k:Int))]∧an G0 G∧Hp w0 G0 [] w G []∧(k≤a.length∧a.take k=b.take k)∧m=(a.length-k)) (h0:=⟨0,_,Z,an.refl _,H,?inv,Z⟩) (round:=?round);case inv=>exact⟨by omega,by simp⟩
 case round =>
  rintro _ _ _ ⟨k,G2,rfl,aX,H,cy,rfl⟩;have ha:=ha.up aX;have hb:=hb.up aX;obtain⟨_,bo⟩:=cy;refine ah<|q2<|pe 2 Z<|lN Z<|pe 1 Z<|q3 ?_;refine ar Z ?_ ?_
  ·intro dk;refine ap<|ae<|ah<|aQ<|ah<|cw [] 9 H kR Z ?_;intro _ H;have jd:=an.refl G2;refine dE 0 Z2<|dE 1 Z2 ?_;have Oc:=ha.len;obtain⟨_,_,_,_,yP,ey,sf,jL,nq,_⟩:=ha.at (i:=k) oM;clear sf;obtain⟨rfl,_⟩:=jL;refine dI 2 1 k yP Z3 Z<|dP 3 nq 0 Z3<|dE 4 Z2<|dE 5 Z2 ?_;have Od:=hb.len;obtain⟨_,_,_,_,yQ,fy,sg,jq,jw,_⟩:=hb.at (i:=k) oM;clear sg;obtain⟨rfl,_⟩:=jq;refine dI 6 1 k yQ Z3 Z<|dP 7 jw 0 Z3<|dE 8 Z2<|rz<|ae ?_;refine ar Z ?_ ?_
   ·intro eB;refine q2<|aG Z<|q3<|ag<|aM<|ak<|cK<|aM<|ak<|au results128 Z ?_;exact H.rb (by unfold Sp.iH;exact Sp.ZO ey fy oM)
   intro eL;refine ap<|ba<|ae<|aL<|mV Z<|aD Z2<|aG Z<|aF ?_;refine bg (hJ:=⟨k+1,_,Z,aX,H,?inv,Z⟩) (hm:=?hm);case hm=>omega
   case inv=>exact⟨by omega,Sp.Ah bo ey<|by rw[fy];congr 1;omega⟩
  intro cH;refine bM<|bK<|bQ<|bJ<|ae<|q2<|aG Z<|q3<|ag<|au results128 Z ?_;exact H.rb (by unfold Sp.iH;exact Sp.UK bo oM oM)
theorem S2 (hG:aE G0 w0)(dK:Value)(bytes:List (Int))(bd:dv G0 dK bytes) :
  Calls prog 127 #[dK] w0 (b8 w0<|.bool<|Sp.fV bytes):=by
 obtain⟨kW,lg,rfl⟩:=bd.shape;have lD:=bd.lm;have H:=Hp.init hG;refine aO func127 Z ntmps127 Z<|q2<|aG Z<|q3<|ah<|q2<|aG Z<|q3<|aQ ?_;refine bU (hf:=(av 0 Z bz)) (J:=fun M w m=>∃(k:Nat) (G:PH),M=[(3,.int .i64 (k:Int))]∧an G0 G∧Hp w0 G0 [] w G []∧(k≤bytes.length∧(bytes.take k).all Sp.mS=true)∧m=(bytes.length-k)) (h0:=⟨0,_,Z,an.refl _,H,?inv,Z⟩) (round:=?round);case inv=>exact⟨by omega,by simp⟩
 case round =>
  rintro _ _ _ ⟨k,_,rfl,cf,H,eE,rfl⟩;have bd:=bd.up cf;obtain⟨_,bo⟩:=eE;refine ah<|q2<|pe 2 Z<|lN Z<|pe 1 Z<|q3 ?_;refine ar Z ?_ ?_
  ·intro cY;refine ap<|ae<|ah<|aQ<|q2<|pe 2 Z<|iP k bd Z3 Z ?_;intro _ _ _ _ dU gA gX;obtain⟨rfl,_⟩:=gA;refine lP H gX 0 Z2<|xr H Z2 (zU _ _ _ _) ?_;intro _ H;refine pe 1 Z<|q3 ?_;refine ar Z ?_ ?_
   ·intro cn;refine q2<|aG Z<|q3<|ag<|aM<|ak<|cK<|aM<|ak<|au results127 Z ?_;exact H.rb (by rw[Sp.fV,Sp.all_false dU<|by simp[Sp.mS, *]];rfl)
   intro cj;refine ap<|ba<|ae<|aL<|mV Z<|aD Z2<|aG Z<|aF ?_;refine bg (hJ:=⟨k+1,_,Z,cf,H,?inv,Z⟩) (hm:=?hm);case hm=>omega
   case inv=>exact⟨by omega,Sp.lV bo dU<|by simp[Sp.mS, *]⟩
  intro c9;refine bM<|bK<|bQ<|bJ<|ae<|q2<|mV Z<|lN Z<|xr H Z2 (zU _ _ _ _) ?_;intro _ H;refine aG Z<|q3<|ag<|au results127 Z ?_;obtain rfl:k=bytes.length:=by omega
  rw[List.take_length]at bo;exact H.rb (by simp only[Sp.fV,bo,Bool.true_and])
theorem KL (hG:aE G0 w0)(dK:Value)(bytes:List (Int))(bd:dv G0 dK bytes) :
  Calls prog 164 #[dK] w0 (b8 w0<|.bool<|Sp.jz bytes):=by
 obtain⟨kW,lg,rfl⟩:=bd.shape;have lD:=bd.lm;have H:=Hp.init hG;refine aO func164 Z ntmps164 Z<|q2<|aG Z<|q3<|ah<|q2<|aG Z<|q3<|aQ ?_;refine bU (hf:=(av 0 Z bz)) (J:=fun M w m=>∃(k:Nat) (G:PH),M=[(3,.int .i64 (k:Int))]∧an G0 G∧Hp w0 G0 [] w G []∧(k≤bytes.length∧(bytes.take k).all Sp.mS=true)∧m=(bytes.length-k)) (h0:=⟨0,_,Z,an.refl _,H,?inv,Z⟩) (round:=?round);case inv=>exact⟨by omega,by simp⟩
 case round =>
  rintro _ _ _ ⟨k,_,rfl,cf,H,eE,rfl⟩;have bd:=bd.up cf;obtain⟨_,bo⟩:=eE;refine ah<|q2<|pe 2 Z<|lN Z<|pe 1 Z<|q3 ?_;refine ar Z ?_ ?_
  ·intro cY;refine ap<|ae<|ah<|aQ<|q2<|pe 2 Z<|iP k bd Z3 Z ?_;intro _ _ _ _ dU gA gX;obtain⟨rfl,_⟩:=gA;refine lP H gX 0 Z2<|xr H Z2 (zU _ _ _ _) ?_;intro _ H;refine pe 1 Z<|q3 ?_;refine ar Z ?_ ?_
   ·intro cn;refine q2<|aG Z<|q3<|ag<|aM<|ak<|cK<|aM<|ak<|au results164 Z ?_;exact H.rb (by rw[Sp.jz,Sp.all_false dU<|by simp[Sp.mS, *]];rfl)
   intro cj;refine ap<|ba<|ae<|aL<|mV Z<|aD Z2<|aG Z<|aF ?_;refine bg (hJ:=⟨k+1,_,Z,cf,H,?inv,Z⟩) (hm:=?hm);case hm=>omega
   case inv=>exact⟨by omega,Sp.lV bo dU<|by simp[Sp.mS, *]⟩
  intro c9;refine bM<|bK<|bQ<|bJ<|ae<|q2<|mV Z<|lN Z<|pe 2 Z<|q3<|ag<|au results164 Z ?_;obtain rfl:k=bytes.length:=by omega
  rw[List.take_length]at bo;exact H.rb (by simp only[Sp.jz,bo,Bool.true_and];rw[Bool.eq_iff_iff];simp;omega)
theorem wK (hG:aE G0 w0)(bt:Value)(list:List (ao))(az:di G0 bt list) :
  Calls prog 72 #[bt] w0 (b8 w0<|.bool<|Sp.fg list):=by
 obtain⟨gg,gn,rfl⟩:=az.shape;have gj:=az.lm;have H:=Hp.init hG;refine aO func72 Z ntmps72 Z<|q2<|aG Z<|q3<|ah<|q2<|aG Z<|q3<|aQ ?_;refine bU (hf:=(av 0 Z bz)) (J:=fun M w m=>∃(k:Nat) (G:PH),M=[(3,.int .i64 (k:Int))]∧an G0 G∧Hp w0 G0 [] w G []∧(k≤list.length∧∀j,j<k→Sp.rk list j=true)∧m=(list.length-k)) (h0:=⟨0,_,Z,an.refl _,H,?inv,Z⟩) (round:=?round);case inv=>exact⟨by omega,fun j hj=>by omega⟩
 case round =>
  rintro _ _ _ ⟨k,G1,rfl,cf,H,eE,rfl⟩;have az:=az.up cf;obtain⟨_,bo⟩:=eE;refine ah<|q2<|pe 2 Z<|lN Z<|pe 1 Z<|q3 ?_;refine ar Z ?_ ?_
  ·intro cY;refine ap<|ae<|ah<|aQ<|q2<|pe 2 Z<|iP k az Z3 Z ?_;intro _ _ z3 _ dU gA gX;obtain⟨_,_,_,rfl,_,oV,_,_,_⟩:=ox gA;refine iI H isAgg84 sizeOf84 Z Z gX Z<|bT H Z ?_;intro b4 _ _ H;refine aI 0 H Z8 ?_;intro _ H;refine q3<|ah<|ah<|cw [0] 31 H kR Z ?_;intro _ H;have da:=an.refl G1;refine dF 0 0 Z2<|dB 1 0 Z4<|r1 2 Z<|xr H Z2 (zU _ _ _ _) ?_;intro _ H;refine q4 H da<|dE 3 Z2<|dE 4 Z2 ?_;refine mP (t:=20) Z ?_ ?_
   ·intro eH;refine dE 5 Z2<|dE 6 Z2<|dE 7 Z2<|dE 8 Z2<|dE 9 Z2<|dE 10 Z2<|dE 11 Z2<|dE 12 Z2<|dE 13 Z2<|dE 14 Z2<|dE 15 Z2<|dE 16 Z2<|dE 17 Z2<|dE 18 Z2<|dE 19 Z2<|fN 20 Z kR kR kR Z (cA Z Z) ?_;refine fN 21 Z kR kR kR Z (cA Z Z)<|fN 22 Z kR kR kR Z (cA Z Z)<|fN 23 Z kR kR kR Z (cA Z Z)<|fN 24 Z kR kR kR Z (cA Z Z)<|fN 25 Z kR kR kR Z (cA Z Z)<|fN 26 Z kR kR kR Z (cA Z Z)<|fN 27 Z kR kR kR Z (cA Z Z)<|fN 28 Z kR kR kR Z (cA Z Z)<|dE 29 Z2<|dE 30 Z2<|rz<|ae<|bC Z<|q2<|aG Z<|q3 ?_;refine ag<|ak<|aM<|ak<|cK<|aM<|ak<|au results72 Z ?_;exact H.rb (by rw[Sp.fg,Sp.mJ (k:=k) oM<|by rw[Sp.nZ dU];simp[Sp.n0, *]];rfl)
   intro eD;refine dF 5 1 Z2<|dB 6 0 Z4<|r1 7 Z<|gR Z<|xr H Z2 (S2 _ _ H.sub _ _ oV) ?_;intro _ H;refine q4 H da<|dE 8 Z2<|dE 9 Z2<|dE 10 Z2 ?_;refine mP (t:=26) Z ?_ ?_
   ·intro j1;refine dE 11 Z2<|dE 12 Z2<|dE 13 Z2<|dE 14 Z2<|dE 15 Z2<|dE 16 Z2<|dE 17 Z2<|dE 18 Z2<|dE 19 Z2<|fN 20 Z kR kR kR Z (cA Z Z)<|fN 21 Z kR kR kR Z (cA Z Z)<|fN 22 Z kR kR kR Z (cA Z Z)<|fN 23 Z kR kR kR Z (cA Z Z)<|fN 24 Z kR kR kR Z (cA Z Z)<|fN 25 Z kR kR kR Z (cA Z Z)<|fN 26 Z kR kR kR Z (cA Z Z) ?_;refine fN 27 Z kR kR kR Z (cA Z Z)<|fN 28 Z kR kR kR Z (cA Z Z)<|dE 29 Z2<|dE 30 Z2<|rz<|ae<|bC Z<|q2<|aG Z<|q3<|ag<|ak<|aM<|ak<|cK<|aM ?_;refine ak<|au results72 Z ?_;exact H.rb (by rw[Sp.fg,Sp.mJ (k:=k) oM<|by rw[Sp.nZ dU];simp[Sp.n0, *]];rfl)
   intro jO;refine dF 11 2 Z2<|dB 12 0 Z4<|r1 13 Z<|gR Z<|xr H Z2 (zU _ _ _ _) ?_;intro _ H;refine q4 H da<|dE 14 Z2<|dE 15 Z2<|dE 16 Z2 ?_;refine mP (t:=32) Z ?_ ?_
   ·intro j2;refine dE 17 Z2<|dE 18 Z2<|dE 19 Z2<|fN 20 Z kR kR kR Z (cA Z Z)<|fN 21 Z kR kR kR Z (cA Z Z)<|fN 22 Z kR kR kR Z (cA Z Z)<|fN 23 Z kR kR kR Z (cA Z Z)<|fN 24 Z kR kR kR Z (cA Z Z)<|fN 25 Z kR kR kR Z (cA Z Z)<|fN 26 Z kR kR kR Z (cA Z Z)<|fN 27 Z kR kR kR Z (cA Z Z)<|fN 28 Z kR kR kR Z (cA Z Z)<|dE 29 Z2<|dE 30 Z2<|rz<|ae ?_;refine bC Z<|q2<|aG Z<|q3<|ag<|ak<|aM<|ak<|cK<|aM<|ak<|au results72 Z ?_;exact H.rb (by rw[Sp.fg,Sp.mJ (k:=k) oM<|by rw[Sp.nZ dU];simp[Sp.n0, *]];rfl)
   intro jP;refine dE 17 Z2<|dE 18 Z2<|dE 19 Z2 ?_;refine mP (t:=35) Z ?_ ?_
   ·intro iQ;have j5:k≠0:=by omega
    refine dE 20 Z2<|dE 21 Z2<|wH 22 Z kR Z (yl Z Z) (fun _ hK=>Ku Z Z oO) ?_;have WD:=az.len;obtain⟨_,_,_,_,Dg,_,k9,oy,vI,_⟩:=az.at (i:=(k-1)) oM;clear k9;obtain⟨_,_,_,rfl,_,xp,_,_,_⟩:=ox oy;refine dI 23 3 (k-1) Dg Z3 oM<|dF 24 0 Z2<|dP 25 vI 0 Z3<|dF 26 0 Z2<|dB 27 0 Z4<|dE 28 Z2<|dE 29 Z2<|dE 30 Z2<|rz<|ae ?_;refine ar Z ?_ ?_
    ·intro tc;refine q2<|aG Z<|q3<|ag<|ak<|aM<|ak<|cK<|aM<|ak<|au results72 Z ?_;exact H.rb (by rw[Sp.fg,Sp.mJ (k:=k) oM<|by rw[Sp.nZ dU];simp[Sp.n0, *];intro _;omega];rfl)
    intro td;refine ap<|ae<|q2<|aG Z<|q3<|aQ ?_;obtain⟨asE,ajU,H⟩:=H.name (k:=0) rfl;refine bU (hf:=(av 0 Z<|av 3 Z<|av 4 Z bz)) (J:=fun M w m=>∃(i:Nat) (G:PH),M=[(5,.int .i64 (i:Int))]∧an G1 G∧Hp w0 G0 [] w G [ai b4<|cl asE 84]∧(i≤k∧(list.take i).all (fun g=> !Sp.iH g.bytes z3.bytes)=true)∧m=(k-i)) (h0:=⟨0,_,Z,an.refl _,H,?inv,Z⟩) (round:=?round);case inv=>exact⟨by omega,by simp⟩
    case round =>
     rintro _ _ _ ⟨i,KP,rfl,IE,H,ajm,rfl⟩;subst ajU;have az:=az.up IE;have oV:=oV.up IE;have cf:=cf.trans IE;obtain⟨hi,w_⟩:=ajm;refine ah<|q2<|pe 3 Z<|q3 ?_;refine ar Z ?_ ?_
     ·intro A2;refine ap<|ae<|ah<|aQ<|ah<|cw [0] 8 H kR Z ?_;intro _ H;have DT:=an.refl KP;refine dE 0 Z2<|dE 1 Z2 ?_;have ajC:=az.len;obtain⟨_,_,_,_,MN,vT,OZ,yG,zz,_⟩:=az.at (i:=i) oM;clear OZ;obtain⟨_,_,_,rfl,_,EQ,_,_,_⟩:=ox yG;refine dI 2 3 i MN Z3 Z<|dF 3 1 Z2<|dP 4 zz 1 Z3<|dF 5 1 Z2<|dB 6 0 Z4<|r1 7 Z<|xr H Z2 (Q3 _ _ H.sub _ _ EQ _ _ oV) ?_;intro _ H;refine q4 H DT<|rz<|ae ?_;refine ar Z ?_ ?_
      ·intro axJ;refine q2<|aG Z<|q3<|ag<|aM<|ak<|cK<|aM<|aM<|ak<|cK<|aM<|ak<|au results72 Z ?_;exact H.rb (by rw[Sp.fg,Sp.mJ (k:=k) oM<|by rw[Sp.nZ dU,Sp.all_false (l:=list.take k) (k:=i) (by rw[List.getElem?_take,if_pos oM];exact vT)<|by simp[*]];simp];rfl)
      intro axK;refine ap<|ba<|ae<|aL<|mV Z<|aD Z2<|aG Z<|aF ?_;refine bg (hJ:=⟨i+1,_,Z,IE,H,?inv,Z⟩) (hm:=?hm);case hm=>omega
      case inv=>exact⟨by omega,Sp.lV w_ vT<|by simp[*]⟩
     intro Ic;refine bM<|bK<|bQ<|bJ<|ba<|ae<|aL<|mV Z<|aD Z2<|aG Z<|aF ?_;have H:=H.dl 0;refine bg (hJ:=⟨k+1,_,Z,cf,H,?inv,Z⟩) (hm:=?hm);case hm=>omega
     case inv=>exact⟨by omega,Sp.rv bo<|by (obtain rfl:i=k:=by omega);rw[Sp.nZ dU,w_];simp[Sp.n0, *]⟩
   intro js;have j5:k=0:=by omega
   refine dE 20 Z2<|dE 21 Z2<|dE 22 Z2<|dE 23 Z2<|dE 24 Z2<|dE 25 Z2<|dE 26 Z2<|dE 27 Z2<|dE 28 Z2<|dE 29 Z2<|dE 30 Z2<|rz<|ae<|gf Z<|ap<|ae ?_;refine q2<|aG Z<|q3<|aQ ?_;obtain⟨asG,ajW,H⟩:=H.name (k:=0) rfl;refine bU (hf:=(av 0 Z<|av 3 Z<|av 4 Z bz)) (J:=fun M w m=>∃(i:Nat) (G:PH),M=[(5,.int .i64 (i:Int))]∧an G1 G∧Hp w0 G0 [] w G [ai b4<|cl asG 84]∧(i≤k∧(list.take i).all (fun g=> !Sp.iH g.bytes z3.bytes)=true)∧m=(k-i)) (h0:=⟨0,_,Z,an.refl _,H,?inv,Z⟩) (round:=?round);case inv=>exact⟨by omega,by simp⟩
   case round =>
    rintro _ _ _ ⟨i,G27,rfl,IF,H,ajn,rfl⟩;subst ajW;have az:=az.up IF;have oV:=oV.up IF;have cf:=cf.trans IF;obtain⟨hi,w_⟩:=ajn;refine ah<|q2<|pe 3 Z<|q3 ?_;refine ar Z ?_ ?_
    ·intro ah8;refine ap<|ae<|ah<|aQ<|ah<|cw [0] 8 H kR Z ?_;intro _ H;have DU:=an.refl G27;refine dE 0 Z2<|dE 1 Z2 ?_;have ajD:=az.len;obtain⟨_,_,_,_,MO,BD,EL,Mk,Pr,_⟩:=az.at (i:=i) oM;clear EL;obtain⟨_,_,_,rfl,_,Pg,_,_,_⟩:=ox Mk;refine dI 2 3 i MO Z3 Z<|dF 3 1 Z2<|dP 4 Pr 1 Z3<|dF 5 1 Z2<|dB 6 0 Z4<|r1 7 Z<|xr H Z2 (Q3 _ _ H.sub _ _ Pg _ _ oV) ?_;intro _ H;refine q4 H DU<|rz<|ae ?_;refine ar Z ?_ ?_
     ·intro ah_;refine q2<|aG Z<|q3<|ag<|aM<|ak<|cK<|aM<|aM<|ak<|cK<|aM<|ak<|au results72 Z ?_;exact H.rb (by rw[Sp.fg,Sp.mJ (k:=k) oM<|by rw[Sp.nZ dU,Sp.all_false (l:=list.take k) (k:=i) (by rw[List.getElem?_take,if_pos oM];exact BD)<|by simp[*]];simp];rfl)
     intro aia;refine ap<|ba<|ae<|aL<|mV Z<|aD Z2<|aG Z<|aF ?_;refine bg (hJ:=⟨i+1,_,Z,IF,H,?inv,Z⟩) (hm:=?hm);case hm=>omega
     case inv=>exact⟨by omega,Sp.lV w_ BD<|by simp[*]⟩
    intro ah9;refine bM<|bK<|bQ<|bJ<|ba<|ae<|aL<|mV Z<|aD Z2<|aG Z<|aF ?_;have H:=H.dl 0;refine bg (hJ:=⟨k+1,_,Z,cf,H,?inv,Z⟩) (hm:=?hm);case hm=>omega
    case inv=>exact⟨by omega,Sp.rv bo<|by (obtain rfl:i=k:=by omega);rw[Sp.nZ dU,w_];simp[Sp.n0, *]⟩
  intro c9;refine bM<|bK<|bQ<|bJ<|ae<|q2<|mV Z<|lN Z<|pe 2 Z<|q3<|ag<|au results72 Z ?_;exact H.rb (by rw[Sp.fg,Sp.Au<|fun j hj=>bo j oM,Bool.true_and];rw[Bool.eq_iff_iff];simp;omega)
theorem FW (hG:aE G0 w0)(bt:Value)(list:List (ao))(az:di G0 bt list)(id:Int) :
  Calls prog 114 #[bt,.int .i64 id] w0 (b8 w0<|.int .i64<|Sp.BP list id):=by
 obtain⟨gg,gn,rfl⟩:=az.shape;have gj:=az.lm;have H:=Hp.init hG;refine aO func114 Z ntmps114 Z<|q2<|aG Z<|q3<|ah<|q2<|aG Z<|q3<|aQ ?_;refine bU (hf:=(av 0 Z<|av 1 Z bz)) (J:=fun M w m=>∃(k:Nat) (G:PH),M=[(5,.int .i64 (k:Int))]∧an G0 G∧Hp w0 G0 [] w G []∧(k≤list.length∧(∀j,j<k→∀y,list[j]? = some y→decide (y.id=id)=false))∧m=(list.length-k)) (h0:=⟨0,_,Z,an.refl _,H,?inv,Z⟩) (round:=?round);case inv=>exact⟨by omega,fun j hj=>by omega⟩
 case round =>
  rintro _ _ _ ⟨k,_,rfl,cf,H,eE,rfl⟩;have az:=az.up cf;obtain⟨_,bo⟩:=eE;refine ah<|q2<|pe 2 Z<|lN Z<|pe 1 Z<|q3 ?_;refine ar Z ?_ ?_
  ·intro cY;refine ap<|ae<|ah<|aQ<|q2<|pe 2 Z<|iP k az Z3 Z ?_;intro _ _ _ _ dU gA gX;obtain⟨_,_,_,rfl,_,_,_,_,_⟩:=ox gA;refine fA 0 Z<|lP H gX 0 Z2<|pe 2 Z<|q3 ?_;refine ar Z ?_ ?_
   ·intro e6;refine q2<|pe 2 Z<|q3<|ag<|aM<|ak<|cK<|aM<|ak<|au results114 Z ?_;exact H.cg (congrArg (Value.int .i64)<|by rw[Sp.BP,Sp.bZ,Sp.wV bo dU<|by simp;omega];rfl)
   intro eS;refine ap<|ba<|ae<|aL<|mV Z<|aD Z2<|aG Z<|aF ?_;refine bg (hJ:=⟨k+1,_,Z,cf,H,?inv,Z⟩) (hm:=?hm);case hm=>omega
   case inv=>exact⟨by omega,Sp.JQ bo dU<|by simp;omega⟩
  intro c9;refine bM<|bK<|bQ<|bJ<|ae<|q2<|aG Z<|q3<|ag<|au results114 Z ?_;exact H.cg (congrArg (Value.int .i64)<|by rw[Sp.BP,Sp.bZ,Sp.HI bo oM];rfl)
theorem arS (hG:aE G0 w0)(bt:Value)(list:List (ao))(az:di G0 bt list)(dK:Value)(bytes:List (Int))(bd:dv G0 dK bytes) :
  Calls prog 263 #[bt,dK] w0 (b8 w0<|.int .i64<|Sp.Q4 list bytes):=by
 obtain⟨gg,gn,rfl⟩:=az.shape;have gj:=az.lm;obtain⟨kW,lg,rfl⟩:=bd.shape;have lD:=bd.lm;have H:=Hp.init hG;refine aO func263 Z ntmps263 Z<|q2<|aG Z<|q3<|ah<|q2<|aG Z<|q3<|aQ ?_;refine bU (hf:=(av 0 Z<|av 1 Z bz)) (J:=fun M w m=>∃(k:Nat) (G:PH),M=[(5,.int .i64 (k:Int))]∧an G0 G∧Hp w0 G0 [] w G []∧(k≤list.length∧(∀j,j<k→∀y,list[j]? = some y→Sp.iH y.bytes bytes=false))∧m=(list.length-k)) (h0:=⟨0,_,Z,an.refl _,H,?inv,Z⟩) (round:=?round);case inv=>exact⟨by omega,fun j hj=>by omega⟩
 case round =>
  rintro _ _ _ ⟨k,_,rfl,cf,H,eE,rfl⟩;have az:=az.up cf;have bd:=bd.up cf;obtain⟨_,bo⟩:=eE;refine ah<|q2<|pe 2 Z<|lN Z<|pe 1 Z<|q3 ?_;refine ar Z ?_ ?_
  ·intro cY;refine ap<|ae<|ah<|aQ<|q2<|pe 2 Z<|iP k az Z3 Z ?_;intro _ _ _ _ dU gA gX;obtain⟨_,_,_,rfl,_,oV,_,_,_⟩:=ox gA;refine fA 1 Z<|lP H gX 1 Z2<|mV Z<|xr H Z2 (Q3 _ _ H.sub _ _ oV _ _ bd) ?_;intro _ H;refine q3 ?_;refine ar Z ?_ ?_
   ·intro cn;refine q2<|pe 2 Z<|q3<|ag<|aM<|ak<|cK<|aM<|ak<|au results263 Z ?_;exact H.cg (congrArg (Value.int .i64)<|by rw[Sp.Q4,Sp.kf,Sp.wV bo dU cn];rfl)
   intro cj;refine ap<|ba<|ae<|aL<|mV Z<|aD Z2<|aG Z<|aF ?_;refine bg (hJ:=⟨k+1,_,Z,cf,H,?inv,Z⟩) (hm:=?hm);case hm=>omega
   case inv=>exact⟨by omega,Sp.JQ bo dU cj⟩
  intro c9;refine bM<|bK<|bQ<|bJ<|ae<|q2<|aG Z<|q3<|ag<|au results263 Z ?_;exact H.cg (congrArg (Value.int .i64)<|by rw[Sp.Q4,Sp.kf,Sp.HI bo oM];rfl)
theorem qm (hG:aE G0 w0)(bt:Value)(list:List (ao))(az:di G0 bt list) :
  Calls prog 169 #[bt] w0 (iy w0 G0<|bf dx 3 84 list):=by
 obtain⟨gg,gn,rfl⟩:=az.shape;have gj:=az.lm;have H:=Hp.init hG;refine aO func169 Z ntmps169 Z<|q2<|aG Z<|q1<|bb H Z7 ?_;intro _ _ _ H;have H:=H.cM 3 (k:=0) (n:=0) rfl rfl (by decide);refine aG Z<|q3<|ah<|q2<|aG Z<|q3<|aQ ?_;refine bU (hf:=(av 0 Z<|av 2 Z bz)) (J:=fun M w m=>∃(v:Value) (n:Nat) (cs:List Value) (xs:List (ao)) (k:Nat) (G:PH),M=[(4,.int .i64 (k:Int)),(3,v)]∧an G0 G∧Hp w0 G0 [] w G [acc 84 3 v n cs]∧(ay dx 3 G cs xs∧n=xs.length∧k≤list.length∧xs.length=k∧xs=list.take k)∧m=(list.length-k)) (h0:=⟨_,_,_,[],0,_,Z,an.refl _,H,?inv,Z⟩) (round:=?round);case inv=>exact⟨(ay.nil (E:=dx) (sz:=3) (G:=G0)),by first|rfl|simp|(simp;omega)|omega,(by simp)⟩
 case round =>
  rintro _ _ _ ⟨v,n,cs,xs,k,G2,rfl,aX,H,cy,rfl⟩;have az:=az.up aX;obtain⟨dY,_,cy⟩:=cy;obtain⟨_,_,rfl⟩:=H.aH (k:=0) rfl;obtain⟨_,gm,cm⟩:=cy;refine ah<|q2<|pe 2 Z<|lN Z<|pe 1 Z<|q3 ?_;refine ar Z ?_ ?_
  ·intro dk;refine ap<|ae<|ah<|aQ<|q2<|pe 2 Z<|iP k az Z3 Z ?_;intro _ _ z4 _ cC eV fv;obtain⟨_,_,_,rfl,_,kr,_,_,_⟩:=ox eV;refine iI H isAgg84 sizeOf84 Z Z fv Z<|bT H Z ?_;intro _ _ _ H;refine aI 0 H Z8 ?_;intro _ H;refine q1<|bb H Z7 ?_;intro _ _ _ H;have H:=H.cM 1 (k:=0) (n:=0) rfl rfl (by decide);refine fA 1 Z<|lB 1 H Z3 ?_;refine tS 0 H kr (by intro _ cs hz _ hu;obtain⟨rfl,_⟩:=hz;simp at hu;subst hu;rfl) (sz:=1) (bytes:=8) underlying82 typeInfo3 ⟨_,rfl,rfl⟩ rfl rfl rfl rfl rfl rfl rfl oM rfl ?_;intro _ _ Hs Ik Nz H;have p6:ay c8 1 G2 ([]++Hs.flatten) _:=⟨Hs,rfl,Ik,Nz⟩;obtain⟨_,_,rfl⟩:=H.aH (k:=0) rfl;refine fA 1 Z<|aI 1 H Z8 ?_;intro _ H;refine q3<|aL<|mV Z<|lA 1 3 H Z4<|bb H Z7 ?_;intro _ _ _ H;refine e7 2 H (sz:=3) (bytes:=40) underlying33 typeInfo84 ⟨_,Z,Z⟩ Z Z Z Z Z Z Z Z Z Z oM Z ?_;intro _ _ H;obtain⟨_,H,po,vO⟩:=H.cI (k:=0) rfl p6 aN aN;have dY:=dY.up po;have aX:=aX.trans po;have rY:=dY.snoc (show dx _ z4 _ from⟨_,_,_,rfl,⟨by first|omega|(dsimp only;omega),by first|omega|(dsimp only;omega)⟩,vO,⟨by first|omega|(dsimp only;omega),by first|omega|(dsimp only;omega)⟩⟩) rfl;obtain⟨_,_,rfl⟩:=H.aH (k:=1) rfl;refine aG Z<|aF<|ba<|ae<|aL<|mV Z<|aD Z2<|aG Z<|aF ?_;have H:=H.dl 0;refine bg (hJ:=⟨_,_,_,(xs++[z4]),k+1,_,Z,aX,H,?inv,Z⟩) (hm:=?hm);case hm=>omega
   case inv=>exact⟨rY,aN,(by exact⟨by omega,by simp[gm],by rw[Sp.gZ cC,cm]⟩)⟩
  intro cH;refine bM<|bK<|bQ<|bJ<|ae<|q2<|pe 2 Z<|q3<|ag<|au results169 Z ?_;obtain rfl:k=list.length:=by omega
  rw[List.take_length]at cm;subst cm;exact H.bO (k:=0) rfl (bf.mk (by assumption) dY)<|bI _ _ _ _ _
theorem FU (hG:aE G0 w0)(bt:Value)(list:List (cG))(az:gx G0 bt list)(name:Bs)(eM:name.length≤16777216) :
  Calls prog 112 #[bt,str name] w0 (b8 w0<|.int .i64<|Sp.jx list name):=by
 obtain⟨gg,gn,rfl⟩:=az.shape;have gj:=az.lm;have H:=Hp.init hG;refine aO func112 Z ntmps112 Z<|q2<|aG Z<|q3<|ah<|q2<|aG Z<|q3<|aQ ?_;refine bU (hf:=(av 0 Z<|av 1 Z bz)) (J:=fun M w m=>∃(k:Nat) (G:PH),M=[(5,.int .i64 (k:Int))]∧an G0 G∧Hp w0 G0 [] w G []∧(k≤list.length∧(∀j,j<k→∀y,list[j]? = some y→decide (y.name=name)=false))∧m=(list.length-k)) (h0:=⟨0,_,Z,an.refl _,H,?inv,Z⟩) (round:=?round);case inv=>exact⟨by omega,fun j hj=>by omega⟩
 case round =>
  rintro _ _ _ ⟨k,_,rfl,cf,H,eE,rfl⟩;have az:=az.up cf;obtain⟨_,bo⟩:=eE;refine ah<|q2<|pe 2 Z<|lN Z<|pe 1 Z<|q3 ?_;refine ar Z ?_ ?_
  ·intro cY;refine ap<|ae<|ah<|aQ<|q2<|pe 2 Z<|iP k az Z3 Z ?_;intro _ _ _ _ dU gA gX;obtain⟨_,_,_,rfl,_,_,_,_⟩:=ox gA;refine fA 0 Z<|lP H gX 0 Z2<|mV Z<|iJ Z Z Z<|q3 ?_;refine ar Z ?_ ?_
   ·intro e6;refine q2<|pe 2 Z<|q3<|ag<|aM<|ak<|cK<|aM<|ak<|au results112 Z ?_;exact H.cg (congrArg (Value.int .i64)<|by rw[Sp.jx,Sp.fc,Sp.wV bo dU<|by simp;exact e6];rfl)
   intro eS;refine ap<|ba<|ae<|aL<|mV Z<|aD Z2<|aG Z<|aF ?_;refine bg (hJ:=⟨k+1,_,Z,cf,H,?inv,Z⟩) (hm:=?hm);case hm=>omega
   case inv=>exact⟨by omega,Sp.JQ bo dU<|by simp;exact eS⟩
  intro c9;refine bM<|bK<|bQ<|bJ<|ae<|q2<|aG Z<|q3<|ag<|au results112 Z ?_;exact H.cg (congrArg (Value.int .i64)<|by rw[Sp.jx,Sp.fc,Sp.HI bo oM];rfl)
theorem Zd (hG:aE G0 w0)(bt:Value)(list:List (ao))(az:di G0 bt list)(ky:Value)(ids:List (Int))(dy:dv G0 ky ids) :
  Calls prog 131 #[bt,ky] w0 (b8 w0<|.bool<|Sp.dh list ids):=by
 obtain⟨gg,gn,rfl⟩:=az.shape;have gj:=az.lm;obtain⟨yh,kids,rfl⟩:=dy.shape;have zd:=dy.lm;have H:=Hp.init hG;refine aO func131 Z ntmps131 Z<|q2<|aG Z<|q3<|ah<|q2<|aG Z<|q3<|aQ ?_;refine bU (hf:=(av 0 Z<|av 1 Z bz)) (J:=fun M w m=>∃(k:Nat) (G:PH),M=[(5,.int .i64 (k:Int))]∧an G0 G∧Hp w0 G0 [] w G []∧(k≤ids.length∧∀j,j<k→Sp.nW list ids j=true)∧m=(ids.length-k)) (h0:=⟨0,_,Z,an.refl _,H,?inv,Z⟩) (round:=?round);case inv=>exact⟨by omega,fun j hj=>by omega⟩
 case round =>
  rintro _ _ _ ⟨k,_,rfl,cf,H,eE,rfl⟩;have az:=az.up cf;have dy:=dy.up cf;obtain⟨_,bo⟩:=eE;refine ah<|q2<|pe 2 Z<|lN Z<|pe 1 Z<|q3 ?_;refine ar Z ?_ ?_
  ·intro cY;refine ap<|ae<|ah<|aQ<|q2<|pe 3 Z<|iP k dy Z3 Z ?_;intro _ _ z3 _ dU gA gX;obtain⟨rfl,r5⟩:=gA;refine lP H gX 0 Z2<|xr H Z2 (FW _ _ H.sub _ _ az _) ?_;intro _ H;refine aG Z<|q1<|pe 3 Z ?_;refine bm (t:=21) Z ?_ ?_
   ·intro cn;refine pe 6 Z<|eZ Z (cA Z Z)<|eZ Z (cA Z Z)<|eZ Z (cA Z Z)<|eZ Z (cA Z Z)<|eZ Z (cA Z Z)<|eZ Z (cA Z Z)<|eZ Z (cA Z Z)<|pe 2 Z<|q3<|bC Z<|q2<|aG Z<|q3<|ag<|aM ?_;refine ak<|cK<|aM<|ak<|au results131 Z ?_;exact H.rb (by rw[Sp.dh,Sp.mJ (k:=k) oM<|by simp[Sp.nW,dU,Sp.bZ,Sp.oo cn]];rfl)
   intro cj;obtain⟨i,x,dG,ec,r5,jt,_⟩:=Sp.oh cj;have hl:Sp.bZ list z3=some i:=dG;refine pe 1 Z<|gR Z<|aD Z2<|pe 1 Z<|gR Z<|lN Z<|pe 2 Z ?_;refine bm (t:=27) Z ?_ ?_
   ·intro eB;refine pe 2 Z<|gR Z<|iP i az Z3 ec ?_;intro _ _ z8 _ fH lY nr;obtain⟨_,_,_,rfl,_,_,_,_,_⟩:=ox lY;have FG:x=z8:=Option.some.inj<|jt.symm.trans fH;subst FG;refine gR Z<|fA 1 Z<|gR Z<|lP H nr 1 Z2<|gR Z<|lN Z<|pe 3 Z<|q3 ?_;refine ar Z ?_ ?_
    ·intro i_;refine q2<|aG Z<|q3<|ag<|aM<|ak<|cK<|aM<|ak<|au results131 Z ?_;exact H.rb (by rw[Sp.dh,Sp.mJ (k:=k) oM<|by simp[Sp.nW,dU,hl,jt];omega];rfl)
    intro j3;refine ap<|ba<|ae<|aL<|mV Z<|aD Z2<|aG Z<|aF ?_;refine bg (hJ:=⟨k+1,_,Z,cf,H,?inv,Z⟩) (hm:=?hm);case hm=>omega
    case inv=>exact⟨by omega,Sp.rv bo<|by simp[Sp.nW,dU,hl,jt];omega⟩
   intro eL;refine pe 9 Z<|q3<|gf Z<|ap<|ba<|ae<|aL<|mV Z<|aD Z2<|aG Z<|aF ?_;refine bg (hJ:=⟨k+1,_,Z,cf,H,?inv,Z⟩) (hm:=?hm);case hm=>omega
   case inv=>exact⟨by omega,Sp.rv bo<|by simp[Sp.nW,dU,hl,jt];omega⟩
  intro c9;refine bM<|bK<|bQ<|bJ<|ae<|q2<|mV Z<|lN Z<|pe 2 Z<|q3<|ag<|au results131 Z ?_;exact H.rb (by rw[Sp.dh,Sp.Au<|fun j hj=>bo j oM,Bool.true_and];rw[Bool.eq_iff_iff];simp;omega)
end Go.Proofs.Tst
