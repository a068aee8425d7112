/- Part 4 of the proof: the program logic and plain functions. Conditions: none. -/
import Derived.Test.YtcagigfnblfnkaaGreatDoorG03
import Derived.Laws.IdiomCopy
import Derived.Lib.SliceRun
import Derived.Lib.AppendZeros
import Derived.Lib.Overlaps
import Derived.Conc.MuLone
import Derived.Laws.BytesArg
import Derived.Test.YtcagigfnblfnkaaGreatDoorG02
set_option linter.all false
set_option maxRecDepth 100000
set_option maxHeartbeats 8000000
namespace Sp
open Fw
theorem Zm (s:Bs):∀k,k≤s.length→match (List.range k).foldl (lL s) none with
  | none=>∀j,j<k→s[j]? ≠ some 47
  | some i=>i<k∧s[i]? = some 47∧∀j,i<j→j<k→s[j]? ≠ some 47
 | 0,_=>by simp
 | k+1,h=>by
  have ih:=Zm s k (by omega);rw[JC];cases h0:(List.range k).foldl (lL s) none with
  | none =>
   rw[h0]at ih;by_cases e:s[k]? = some 47
   ·have:lL s none k=some k:=by simp[lL,e]
    rw[this];exact⟨by omega,e,fun j h1 h2=>by omega⟩
   ·have:lL s none k=none:=by simp[lL,e]
    rw[this];intro j hj;rcases Nat.lt_or_ge j k with h1|h1
    ·exact ih j h1
    ·obtain rfl:j=k:=by omega
     exact e
  | some i =>
   rw[h0]at ih;by_cases e:s[k]? = some 47
   ·have:lL s (some i) k=some k:=by simp[lL,e]
    rw[this];exact⟨by omega,e,fun j h1 h2=>by omega⟩
   ·have:lL s (some i) k=some i:=by simp[lL,e]
    rw[this];refine⟨by omega,ih.2.1,fun j h1 h2=>?_⟩;rcases Nat.lt_or_ge j k with h3|h3
    ·exact ih.2.2 j h1 h3
    ·obtain rfl:j=k:=by omega
     exact e
theorem CB:∀(a b:Bs),cut (a++47::b)=cut a++cut b
 | [],b=>by simp[cut]
 | x::a,b=>by
  have ih:=CB a b;simp only[List.cons_append,cut];by_cases e:x=47
  ·simp[e,ih]
  ·simp only[e,if_false,ih];cases h:cut a with
   | nil=>exact absurd h<|lx a
   | cons w ws=>simp
theorem aam (s:Bs):((cut s).length=1∧pz s=[])∨(cut s=cut (pz s)++[(cut s).getLast<|lx s]∧2≤(cut s).length):=by
 have h:=Zm s s.length<|Nat.le_refl _;unfold pz BO Q8;cases h0:(List.range s.length).foldl (lL s) none with
 | none =>
  rw[h0]at h;left
  have hn:(47:UInt8) ∉ s:=fun hm=>by
   obtain⟨j,hj⟩:=List.getElem?_of_mem hm;exact h j (List.getElem?_eq_some_iff.1 hj).1 hj
  exact⟨by rw[CC hn];rfl,by simp only[dV];rfl⟩
 | some i =>
  rw[h0]at h;obtain⟨h1,h2,h3⟩:=h;right;have hs:s=s.take i++47::s.drop (i+1):=by rw[←pc h2,List.take_append_drop]
  have hn:(47:UInt8) ∉ s.drop (i+1):=fun hm=>by
   obtain⟨j,hj⟩:=List.getElem?_of_mem hm;rw[List.getElem?_drop]at hj;exact h3 (i+1+j) (by omega) (List.getElem?_eq_some_iff.1 hj).1 hj
  have hc:cut s=cut (s.take i)++[s.drop<|i+1]:=by
   conv=>lhs;rw[hs]
   rw[CB,CC hn]
  have hp:(s.take (max (dV<|some i) 0).toNat)=s.take i:=by
   have:(max (dV<|some i) 0).toNat=i:=by simp only[dV];omega
   rw[this]
  rw[hp];refine⟨?_,?_⟩
  ·have:(cut s).getLast (lx s)=s.drop (i+1):=by
    have h9:∀(l:List Bs) (h:l≠[]),l=cut (s.take i)++[s.drop<|i+1]→l.getLast h=s.drop (i+1):=by
     intro l h e;subst e;simp
    exact h9 _ _ hc
   rw[this];exact hc
  ·rw[hc];have:=List.length_pos_iff.2<|lx<|s.take i;simp;omega
theorem auu {s:Bs}(h:2≤(cut s).length):cut (pz s)=(cut s).dropLast:=by
 rcases aam s with h1|h1
 ·omega
 ·have:=congrArg List.dropLast h1.1;rw[List.dropLast_concat]at this;exact this.symm
def qd (L:List aj)(p:Bs):Prop:=(cut p).length=1∨∃y,y ∈ L∧cut y.path=(cut p).dropLast∧y.dir=true
theorem Kb {p:Bs}(h:cB p=true):(∀n,n ∈ cut p→ep n=true)∧(cut p).length≤4:=by
 simp only[cB,Bool.and_eq_true,List.all_eq_true,decide_eq_true_eq]at h;exact h
theorem kx {L:List aj}(h:L.Pairwise Nd.fS){p:Bs}:(∀i,cD L p=some i→∃y,L[i]? = some y∧y.path=p)∧(∀y,y ∈ L→y.path=p→∃i,cD L p=some i∧L[i]? = some y)∧(cD L p=none→∀y,y ∈ L→y.path≠p):=by
 refine⟨fun i hi=>?_,fun y hy hp=>?_,fun hn y hy=>?_⟩
 ·obtain⟨h1,h2,_⟩:=List.findIdx?_eq_some_iff_getElem.1 hi;exact⟨L[i],by simp[h1],by simpa using h2⟩
 ·cases e:cD L p with
  | none =>
   have:=List.findIdx?_eq_none_iff.1 e y hy;simp[hp]at this
  | some i =>
   obtain⟨h1,h2,_⟩:=List.findIdx?_eq_some_iff_getElem.1 e;have h2:L[i].path=p:=by simpa using h2
   refine⟨i,rfl,?_⟩;obtain⟨j,hj⟩:=List.getElem?_of_mem hy;have ig:=List.getElem?_eq_some_iff.1 hj;rcases Nat.lt_trichotomy i j with g|g|g
   ·have:=List.pairwise_iff_getElem.1 h i j h1 ig.1 g;rw[ig.2]at this;exact absurd (h2.trans hp.symm)<|nY this
   ·rw[g];exact hj
   ·have:=List.pairwise_iff_getElem.1 h j i ig.1 h1 g;rw[ig.2]at this;exact absurd (h2.trans hp.symm).symm<|nY this
 ·have:=List.findIdx?_eq_none_iff.1 hn y hy;simpa using this
theorem WY {L:List aj}(h:L.Pairwise Nd.fS){p:Bs}(hp:cB p=true):v7 L p=true↔qd L p:=by
 unfold v7 qd;obtain⟨u1,u2,u3⟩:=kx h (p:=pz p);rcases aam p with ⟨h1,h2⟩|⟨h1,h2⟩
 ·simp[h1,h2]
 ·have de:pz p≠[]:=fun e=>by
   rw[e]at h1;have:=(Kb hp).1 [] (by rw[h1];simp[cut]);exact ab0 this rfl
  have hl:¬(cut p).length=1:=by omega
  have hd:=auu h2;simp only[de,decide_false,Bool.false_or,hl,false_or];constructor
  ·intro hh;cases e:cD L (pz p) with
   | none=>simp[e]at hh
   | some i =>
    obtain⟨y,hy,hyp⟩:=u1 i e;simp only[e,hy]at hh;exact⟨y,List.mem_of_getElem? hy,by rw[hyp,hd],hh⟩
  ·rintro⟨y,hy,hyp,qi⟩;have:y.path=pz p:=AI (by rw[hyp,hd]);obtain⟨i,hi,BB⟩:=u2 y hy this;simp[hi,BB,qi]
structure VT (L:List aj):Prop where
 d_:L.Pairwise Nd.fS
 ok:∀x,x ∈ L→fB x=true
 home:∀x,x ∈ L→qd L x.path
 len:L.length≤12
theorem aee {L:List aj}(h:∀i x y,L[i]? = some x→L[i+1]? = some y→lt x.path y.path=true):L.Pairwise Nd.fS:=by
 rw[List.pairwise_iff_getElem];intro i j hi hj ph;have key:∀d i (hi:i<L.length) (hj:i+d+1<L.length),lt L[i].path L[i+d+1].path=true:=by
  intro d;induction d with
  | zero=>intro i hi hj;exact h i _ _ (List.getElem?_eq_getElem<|by omega) (List.getElem?_eq_getElem<|by omega)
  | succ d ih =>
   intro i hi hj;have h1:=ih i hi (by omega);have h2:=h (i+d+1) L[i+d+1] L[i+(d+1)+1] (List.getElem?_eq_getElem<|by omega) (List.getElem?_eq_getElem<|by omega);exact lt_trans h1 h2
 have:=key (j-i-1) i hi (by omega);have e:i+(j-i-1)+1=j:=by omega
 simp only[e]at this;exact this
theorem tP {x:aj}(h:fB x=true):cB x.path=true:=by simp only[fB,Bool.and_eq_true]at h;exact h.2.1
theorem jI {L:List aj}:cU L=true↔VT L:=by
 constructor
 ·intro h;simp only[cU,Bool.and_eq_true,List.all_eq_true,List.mem_range,decide_eq_true_eq]at h;obtain⟨h1,h2⟩:=h;have at_:∀i x,L[i]? = some x→(fB x&&sH L i x&&v7 L x.path)=true:=by
   intro i x hx;have:=h1 i (List.getElem?_eq_some_iff.1 hx).1
   rwa [wk hx]at this
  have VQ:L.Pairwise Nd.fS:=by
   refine aee fun i x y hx hy=>?_;have:=at_ (i+1) y hy;simp only[Bool.and_eq_true]at this;have:=this.1.2;simpa [sH,hx] using this
  refine⟨VQ,fun x hx=>?_,fun x hx=>?_,h2⟩
  ·obtain⟨i,hi⟩:=List.getElem?_of_mem hx;have:=at_ i x hi;simp only[Bool.and_eq_true]at this;exact this.1.1
  ·obtain⟨i,hi⟩:=List.getElem?_of_mem hx;have:=at_ i x hi;simp only[Bool.and_eq_true]at this;exact(WY VQ<|tP this.1.1).1 this.2
 ·intro h;simp only[cU,Bool.and_eq_true,List.all_eq_true,List.mem_range,decide_eq_true_eq];refine⟨fun i hi=>?_,h.len⟩;have hm:L[i] ∈ L:=by simp
  rw[wk (x:=L[i])<|by simp[hi],h.ok _ hm,(WY h.d_<|tP<|h.ok _ hm).2<|h.home _ hm];simp only[Bool.true_and,Bool.and_true];unfold sH;by_cases h0:i=0
  ·simp[h0]
  ·have hl:i-1<L.length:=by omega
   have:=List.pairwise_iff_getElem.1 h.d_ (i-1) i hl hi (by omega);simp[h0,hl];exact this
end Sp
namespace Fw.Nd
open Sp
theorem Av:∀(a b:List Bs) (t:Nd),t.at_ (a++b)=(t.at_ a).bind (fun d=>d.at_ b)
 | [],b,t=>rfl
 | n::a,b,t=>by
  simp only[List.cons_append,at_];cases t.c_ n with
  | none=>rfl
  | some k=>exact Av a b k
theorem yj (a:List Bs)(n:Bs)(t:Nd):t.at_ (a++[n])=(t.at_ a).bind (fun d=>d.c_ n):=by
 rw[Av];congr 1;funext d;simp only[at_];cases d.c_ n<;>rfl
def gQ (T:Nd)(p:Bs):Option (Nd×Bs):=match parts p with
 | []=>none
 | n::r=>match T.at_ (n::r).dropLast with
  | none=>none
  | some d=>if d.dir then some (d,(n::r).getLast<|by simp) else none
def find (T:Nd)(p:Bs):Option Nd:=match T.gQ p with
 | none=>none
 | some x=>x.1.c_ x.2
def ins (T:Nd)(x:aj)(nb:Nat):Option Nd:=match T.gQ x.path with
 | none=>none
 | some y=>if (y.1.c_ y.2).isSome then none else some<|T.upd (parts x.path).dropLast<|mG<|.mk nb y.2 x.dir x.ids []
def kN (T:Nd)(x:aj)(nb:Nat):Option Nd:=match T.find x.path with
 | none=>if T.cnt<12 then T.ins x nb else none
 | some cO=>if cO.dir||x.dir then none else some<|T.upd (parts x.path)<|Af x.ids
def mh (T:Nd)(p:Bs):Option Nd:=match T.gQ p with
 | none=>none
 | some y=>match y.1.c_ y.2 with
  | none=>none
  | some k=>if 0<k.kids.length then none else some<|T.upd (parts p).dropLast<|nN y.2
theorem xR {p:Bs}(h:cB p=true):parts p=cut p:=by simp[parts,h]
theorem aan {p:Bs}(h:cB p=false):parts p=[]:=by simp[parts,h]
theorem lW {T:Nd}{p:Bs}{d:Nd}{n:Bs}(h:T.gQ p=some (d,n)):cB p=true∧cut p=(cut p).dropLast++[n]∧T.at_ (cut p).dropLast=some d∧d.dir=true∧ep n=true:=by
 cases hp:cB p with
 | false=>simp[gQ,aan hp]at h
 | true =>
  unfold gQ at h;rw[xR hp]at h;have hw:=(Kb hp).1;cases hc:cut p with
  | nil=>exact absurd hc<|lx p
  | cons m r =>
   rw[hc]at h hw;simp only at h;cases ha:T.at_ (m::r).dropLast with
   | none=>simp[ha]at h
   | some q =>
    simp only[ha]at h;by_cases hq:q.dir=true
    ·simp only[hq,if_true,Option.some.injEq,Prod.mk.injEq]at h;obtain⟨rfl,rfl⟩:=h;exact⟨rfl,(List.dropLast_concat_getLast<|by simp).symm,rfl,hq,hw _<|List.getLast_mem _⟩
    ·simp[hq]at h
theorem Uw {T:Nd}{p:Bs}(hp:cB p=true){d:Nd}(ha:T.at_ (cut p).dropLast=some d)(hd:d.dir=true):∃n,T.gQ p=some (d,n)∧cut p=(cut p).dropLast++[n]:=by
 unfold gQ;rw[xR hp];cases hc:cut p with
 | nil=>exact absurd hc<|lx p
 | cons m r =>
  rw[hc]at ha;simp only[ha,hd,if_true];exact⟨_,rfl,(List.dropLast_concat_getLast<|by simp).symm⟩
structure ci (T:Nd) (L:List aj):Prop where
 wf:T.wf
 dir:T.dir=true
 flat:T.flat []=L
 vt:VT L
theorem ci.mem {T:Nd}{L:List aj}(h:ci T L)(x:aj):x ∈ L↔T.dL (cut x.path)=some (x.dir,x.ids):=by rw[←h.flat];exact ZC h.wf x
theorem ci.LF {T:Nd}{L:List aj}(h:ci T L){p:Bs}(hh:qd L p):∃d,T.at_ (cut p).dropLast=some d∧d.dir=true:=by
 rcases hh with hh|⟨y,hy,hyp,qi⟩
 ·have:(cut p).dropLast=[]:=by
   cases hc:cut p with
   | nil=>exact absurd hc<|lx p
   | cons m r=>rw[hc]at hh;simp at hh;subst hh;rfl
  rw[this];exact⟨T,rfl,h.dir⟩
 ·have:=(h.mem y).1 hy;rw[hyp,dL,Option.map_eq_some_iff]at this;obtain⟨d,h1,h2⟩:=this;simp only[Prod.mk.injEq]at h2;exact⟨d,h1,by rw[h2.1,qi]⟩
theorem ci.akK {T:Nd}{L:List aj}(h:ci T L){p:Bs}(hw:∀n,n ∈ cut p→ep n=true){d:Nd}(ha:T.at_ (cut p).dropLast=some d)(hd:d.dir=true):qd L p:=by
 by_cases hl:(cut p).length=1
 ·exact .inl hl
 ·right
  have de:(cut p).dropLast≠[]:=fun e=>by
   have:=congrArg List.length e;have:=List.length_pos_iff.2<|lx p;simp at *;omega
  have y3:cut (join (cut p).dropLast)=(cut p).dropLast:=Ht de<|fun n hn=>JH<|GR<|hw n<|(List.dropLast_sublist _).mem hn;refine⟨⟨join (cut p).dropLast,d.dir,d.ids⟩,(h.mem _).2 ?_,y3,hd⟩;simp only[y3,dL,ha,Option.map_some]
theorem wV {T:Nd}{L:List aj}(h:ci T L){p:Bs}(hp:cB p=true):T.find p=T.at_ (cut p):=by
 unfold find;cases hd:T.gQ p with
 | some y =>
  obtain⟨d,n⟩:=y;obtain⟨_,h1,h2,_⟩:=lW hd;simp only
  conv=>rhs;rw[h1,yj,h2]
  rfl
 | none =>
  simp only;cases ha:T.at_ (cut p) with
  | none=>rfl
  | some k =>
   exfalso;have hm:(⟨p,k.dir,k.ids⟩:aj) ∈ L:=(h.mem _).2 (by simp[dL,ha]);obtain⟨d,h1,h2⟩:=h.LF<|h.vt.home _ hm;obtain⟨n,h3,_⟩:=Uw hp h1 h2;rw[hd]at h3;cases h3
theorem UY {T:Nd}{p:Bs}(hp:cB p=false):T.find p=none:=by simp[find,gQ,aan hp]
theorem yy {T:Nd}{L:List aj}(h:ci T L)(p:Bs):(T.find p).map (fun k=>(⟨p,k.dir,k.ids⟩:aj))=(cD L p).bind (fun i=>L[i]?):=by
 obtain⟨u1,u2,u3⟩:=kx h.vt.d_ (p:=p);cases hp:cB p with
 | false =>
  rw[UY hp];cases e:cD L p with
  | none=>rfl
  | some i =>
   obtain⟨y,hy,rfl⟩:=u1 i e;have:=tP<|h.vt.ok y<|List.mem_of_getElem? hy;rw[hp]at this;cases this
 | true =>
  rw[wV h hp];cases ha:T.at_ (cut p) with
  | some k =>
   obtain⟨i,h1,h2⟩:=u2 ⟨p,k.dir,k.ids⟩ ((h.mem _).2<|by simp[dL,ha]) rfl;simp[h1,h2]
  | none =>
   cases e:cD L p with
   | none=>rfl
   | some i =>
    obtain⟨y,hy,rfl⟩:=u1 i e;have:=(h.mem y).1<|List.mem_of_getElem? hy;simp[dL,ha]at this
theorem U3 {T:Nd}{M:List aj}(hw:T.wf)(hM:M.Pairwise fS)(h:∀x,x ∈ M↔T.dL (cut x.path)=some (x.dir,x.ids)):T.flat []=M :=
 abh (af6 hw []) hM (fun x=>by rw[ZC hw,h])
theorem ZE (x:aj):∀(L:List aj) (y:aj),y ∈ eU x true L↔y ∈ L∧y.path≠x.path
 | [],y=>by simp[eU]
 | z::r,y=>by
  simp only[eU,Bool.not_true,Bool.false_and,Bool.false_eq_true,if_false,Bool.true_or,List.nil_append,List.mem_append,ZE x r y,List.mem_cons];by_cases e:z.path=x.path
  ·simp only[e,if_true,List.not_mem_nil,false_or];constructor
   ·rintro⟨h1,h2⟩;exact⟨.inr h1,h2⟩
   ·rintro⟨rfl|h1,h2⟩
    ·exact absurd e h2
    ·exact⟨h1,h2⟩
  ·simp only[e,if_false,List.mem_singleton];constructor
   ·rintro(rfl|⟨h1,h2⟩)
    ·exact⟨.inl rfl,e⟩
    ·exact⟨.inr h1,h2⟩
   ·rintro⟨rfl|h1,h2⟩
    ·exact .inl rfl
    ·exact .inr ⟨h1,h2⟩
theorem RE (x:aj):∀(L:List aj) (y:aj),y ∈ eU x false L↔y=x∨(y ∈ L∧y.path≠x.path)
 | [],y=>by simp[eU]
 | z::r,y=>by
  simp only[eU,Bool.not_false,Bool.true_and,Bool.false_or,List.mem_append,List.mem_cons];cases hl:lt z.path x.path with
  | true =>
   have de:¬z.path=x.path:=nY hl;simp only[Bool.not_true,Bool.false_eq_true,if_false,List.not_mem_nil,false_or,de,List.mem_singleton,RE x r y];constructor
   ·rintro(rfl|rfl|⟨h1,h2⟩)
    ·exact .inr ⟨.inl rfl,de⟩
    ·exact .inl rfl
    ·exact .inr ⟨.inr h1,h2⟩
   ·rintro(rfl|⟨rfl|h1,h2⟩)
    ·exact .inr<|.inl rfl
    ·exact .inl rfl
    ·exact .inr<|.inr ⟨h1,h2⟩
  | false =>
   simp only[Bool.not_false,if_true,List.mem_singleton,ZE x r y];by_cases e:z.path=x.path
   ·simp only[e,if_true,List.not_mem_nil,false_or];constructor
    ·rintro(rfl|⟨h1,h2⟩)
     ·exact .inl rfl
     ·exact .inr ⟨.inr h1,h2⟩
    ·rintro(rfl|⟨rfl|h1,h2⟩)
     ·exact .inl rfl
     ·exact absurd e h2
     ·exact .inr ⟨h1,h2⟩
   ·simp only[e,if_false,List.mem_singleton];constructor
    ·rintro(rfl|rfl|⟨h1,h2⟩)
     ·exact .inl rfl
     ·exact .inr ⟨.inl rfl,e⟩
     ·exact .inr ⟨.inr h1,h2⟩
    ·rintro(rfl|⟨rfl|h1,h2⟩)
     ·exact .inl rfl
     ·exact .inr<|.inl rfl
     ·exact .inr<|.inr ⟨h1,h2⟩
theorem Aa (x:aj):∀L:List aj,(eU x true L).Sublist L
 | []=>by simp[eU]
 | z::r=>by
  simp only[eU,Bool.not_true,Bool.false_and,Bool.false_eq_true,if_false,Bool.true_or,List.nil_append];split
  ·exact(Aa x r).cons z
  ·exact(Aa x r).cons_cons z
theorem aax (x:aj):∀L:List aj,L.Pairwise fS→(eU x false L).Pairwise fS
 | [],_=>by simp[eU]
 | z::r,h=>by
  rw[List.pairwise_cons]at h;simp only[eU,Bool.not_false,Bool.true_and,Bool.false_or];cases hl:lt z.path x.path with
  | true =>
   have de:¬z.path=x.path:=nY hl;simp only[Bool.not_true,Bool.false_eq_true,if_false,List.nil_append,de,List.cons_append];rw[List.pairwise_cons];refine⟨fun y hy=>?_,aax x r h.2⟩;rcases (RE x r y).1 hy with rfl|⟨h1,_⟩
   ·exact hl
   ·exact h.1 y h1
  | false =>
   simp only[Bool.not_false,if_true,List.cons_append,List.nil_append];have c7:∀y,y ∈ r→fS x y:=by
    intro y hy;have h1:=h.1 y hy;rcases xJ z.path x.path with g|g|g
    ·rw[hl]at g;cases g
    ·show lt x.path y.path=true;rw[←g];exact h1
    ·exact lt_trans g h1
   have hs:=h.2.sublist<|Aa x r;by_cases e:z.path=x.path
   ·simp only[e,if_true,List.nil_append];rw[List.pairwise_cons];exact⟨fun y hy=>c7 y<|(Aa x r).mem hy,hs⟩
   ·simp only[e,if_false,List.cons_append,List.nil_append];have hxz:fS x z:=by
     rcases xJ z.path x.path with g|g|g
     ·rw[hl]at g;cases g
     ·exact absurd g e
     ·exact g
    rw[List.pairwise_cons,List.pairwise_cons];refine⟨fun y hy=>?_,fun y hy=>h.1 y<|(Aa x r).mem hy,hs⟩;rcases List.mem_cons.1 hy with rfl|hy
    ·exact hxz
    ·exact c7 y<|(Aa x r).mem hy
theorem Ra (x:aj):∀L:List aj,(∀y,y ∈ L→y.path≠x.path)→∀d,(eU x d L).length=L.length+(if d then 0 else 1)
 | [],_,d=>by cases d<;>simp[eU]
 | z::r,h,d=>by
  have hz:¬z.path=x.path:=h z (by simp);have ih:=Ra x r (fun y hy=>h y<|by simp[hy]);simp only[eU,hz,if_false,List.length_append,List.length_cons,List.length_nil,ih];cases d<;>cases lt z.path x.path<;>simp<;>omega
theorem Tz {T:Nd}{ns:List Bs}(h:T.at_ ns=none):T.dL ns=none:=by simp[dL,h]
theorem arc {T T':Nd}{x:aj}{nb:Nat}(hw:T.wf)(hd:T.dir=true)(h:T.ins x nb=some T') :
  T'.wf∧T'.dir=true∧T'.b=T.b∧T'.name=T.name∧(∀ms,T'.dL ms=if ms=cut x.path then some (x.dir,x.ids) else T.dL ms)∧T.dL (cut x.path)=none∧∃d,T.at_ (cut x.path).dropLast=some d∧d.dir=true:=by
 unfold ins at h;cases fe:T.gQ x.path with
 | none=>simp[fe]at h
 | some y =>
  obtain⟨d,n⟩:=y;simp only[fe]at h;obtain⟨hp,hc,ha,DV,hn⟩:=lW fe;cases hk:d.c_ n with
  | some k=>simp[hk]at h
  | none =>
   simp only[hk,Option.isSome_none,Bool.false_eq_true,if_false,Option.some.injEq]at h;rw[xR hp]at h;subst h;have DW:=(Ay hw ha).1;have oI:(Nd.mk nb n x.dir x.ids []).wf:=(kz _).2 ⟨by simp[kids],by simp[kids]⟩;have qW:(mG (.mk nb n x.dir x.ids []) d).wf:=abS DW hk hn oI;have akE:T.dL (cut x.path)=none:=by
    have e:=congrArg T.at_ hc;rw[yj,ha]at e;simp only[Option.bind_some,hk]at e;exact Tz e
   refine⟨Kx (f:=mG<|.mk nb n x.dir x.ids []) (fun _=>rfl) _ T d hw ha qW,by rw[SL T (mG<|.mk nb n x.dir x.ids [])<|fun _=>rfl];exact hd,?_,Kp T (mG<|.mk nb n x.dir x.ids []) (fun _=>rfl) _,?_,akE,d,ha,DV⟩
   ·cases (cut x.path).dropLast<;>rfl
   ·intro ms;rw[Hh (f:=mG<|.mk nb n x.dir x.ids []) (fun _=>rfl) (fun _=>rfl) _ T d ha ms];by_cases se:(cut x.path).dropLast <+: ms
    ·obtain⟨q,rfl⟩:=se;simp only[List.prefix_append,if_true,List.drop_left];rw[adX (k:= .mk nb n x.dir x.ids []) DW hk hn oI rfl];have e1:((cut x.path).dropLast++q=cut x.path)↔q=[n]:=by
      constructor
      ·intro e;rw[hc]at e;simp at e;exact e
      ·intro e;rw[e];exact hc.symm
     have e2:d.dL q=T.dL ((cut x.path).dropLast++q):=by simp only[dL,Av,ha,Option.bind_some]
     by_cases e:q=[n]
     ·simp only[e,if_true];rw[if_pos hc.symm];exact if_pos rfl
     ·have:¬((cut x.path).dropLast++q=cut x.path):=fun h=>e<|e1.1 h;simp only[this,if_false];rw[←e2];exact if_neg e
    ·have:¬ms=cut x.path:=fun e=>se (by rw[e,hc];simp);simp only[se,this,if_false]
theorem YK {T:Nd}{x:aj}{nb:Nat}(hp:cB x.path=true){d:Nd}(ha:T.at_ (cut x.path).dropLast=some d)(hd:d.dir=true)(hn:T.at_ (cut x.path)=none):∃T',T.ins x nb=some T':=by
 obtain⟨n,h1,h2⟩:=Uw hp ha hd;have hk:d.c_ n=none:=by
  have e:=congrArg T.at_ h2;rw[yj,ha,hn]at e;exact e.symm
 unfold ins;rw[h1];simp[hk]
theorem sI {L:List aj}{x y:aj}:y ∈ iT L x↔y=x∨(y ∈ L∧y.path≠x.path):=RE x L y
theorem Ka {L:List aj}(h:L.Pairwise fS)(x:aj):(iT L x).Pairwise fS:=aax x L h
theorem awH {L:List aj}(h:VT L){x:aj}(hx:fB x=true)(hh:qd L x.path)(hn:∀y,y ∈ L→y.path≠x.path)(hl:L.length<12):VT (iT L x):=by
 refine⟨Ka h.d_ x,fun y hy=>?_,fun y hy=>?_,?_⟩
 ·rcases sI.1 hy with rfl|⟨h1,_⟩
  ·exact hx
  ·exact h.ok y h1
 ·have key:∀p,qd L p→qd (iT L x) p:=by
   rintro p (h1|⟨z,hz,h2⟩)
   ·exact .inl h1
   ·exact .inr ⟨z,sI.2<|.inr ⟨hz,hn z hz⟩,h2⟩
  rcases sI.1 hy with rfl|⟨h1,_⟩
  ·exact key _ hh
  ·exact key _<|h.home y h1
 ·have:=Ra x L hn false;simp only[Bool.false_eq_true,if_false]at this;unfold iT;omega
theorem U4 {T T':Nd}{L:List aj}{x:aj}(h:ci T L)(hw:T'.wf)(ha:∀ms,T'.dL ms=if ms=cut x.path then some (x.dir,x.ids) else T.dL ms):T'.flat []=iT L x:=by
 refine U3 hw (Ka h.vt.d_ x)<|fun y=>?_;rw[sI,ha];by_cases e:cut y.path=cut x.path
 ·have e':=AI e;simp only[e,if_true,e',ne_eq,not_true_eq_false,and_false,or_false,Option.some.injEq,Prod.mk.injEq];constructor
  ·rintro rfl;exact⟨rfl,rfl⟩
  ·rintro⟨h1,h2⟩;obtain⟨p,d,i⟩:=y;obtain⟨p',d',i'⟩:=x;simp only at e' h1 h2;subst e' h1 h2;rfl
 ·have e':y.path≠x.path:=fun h=>e (by rw[h]);simp only[e,if_false,e',ne_eq,not_false_eq_true,and_true,h.mem y];constructor
  ·rintro(rfl|h1)
   ·exact absurd rfl e'
   ·exact h1
  ·exact .inr
theorem abx {T T':Nd}{L:List aj}{x:aj}{nb:Nat}(h:ci T L)(hx:fB x=true)(hl:L.length<12)(hi:T.ins x nb=some T'):ci T' (iT L x)∧(∀y,y ∈ L→y.path≠x.path)∧qd L x.path:=by
 obtain⟨h1,h2,_,_,h3,h4,d,h5,h6⟩:=arc h.wf h.dir hi
 have hn:∀y,y ∈ L→y.path≠x.path:=fun y hy e=>by
  have:=(h.mem y).1 hy;rw[e,h4]at this;cases this
 have hh:=h.akK (Kb<|tP hx).1 h5 h6;exact⟨⟨h1,h2,U4 h h1 h3,awH h.vt hx hh hn hl⟩,hn,hh⟩
theorem Tv {L:List aj}{p:Bs}(h:∀y,y ∈ L→y.path≠p):cD L p=none:=List.findIdx?_eq_none_iff.2 (fun y hy=>by simpa using h y hy)
theorem aaB {T:Nd}{L:List aj}{x:aj}{nb:Nat}(h:ci T L)(hx:fB x=true)(hn:∀y,y ∈ L→y.path≠x.path)(Dp:12≤L.length∨T.ins x nb=none):dZ L x=none:=by
 have : ¬ cU (iT L x) = true := fun hv => by
  have hv:=jI.1 hv;rcases Dp with hb|hb
  ·have:=hv.len;have h2:=Ra x L hn false;simp only[Bool.false_eq_true,if_false]at h2;unfold iT at this;omega
  ·have hh:=hv.home x<|sI.2<|.inl rfl;have hh':qd L x.path:=by
    rcases hh with h1|⟨z,hz,h1,h2⟩
    ·exact .inl h1
    ·rcases sI.1 hz with rfl|⟨h3,_⟩
     ·exfalso;have:=congrArg List.length h1;simp at this;have:=List.length_pos_iff.2<|lx z.path;omega
     ·exact .inr ⟨z,h3,h1,h2⟩
   obtain⟨d,h1,h2⟩:=h.LF hh';have h3:T.at_ (cut x.path)=none:=by
    cases e:T.at_ (cut x.path) with
    | none=>rfl
    | some k=>exact absurd rfl (hn ⟨x.path,k.dir,k.ids⟩<|(h.mem _).2<|by simp[dL,e])
   obtain⟨T',h4⟩:=YK (nb:=nb) (tP hx) h1 h2 h3;rw[hb]at h4;cases h4
 simp[dZ,Tv hn,this]
theorem auM {L:List aj}{x:aj}(hv:VT L)(hx:fB x=true)(hn:∀y,y ∈ L→y.path≠x.path)(hp:VT (iT L x)):dZ L x=some (iT L x):=by
 simp[dZ,jI.2 hv,hx,Tv hn,jI.2 hp]
theorem awI {L:List aj}(h:VT L){x y:aj}(hx:fB x=true)(hy:y ∈ L)(hp:y.path=x.path)(qi:y.dir=false):VT (iT L x):=by
 have hk:∀z,z ∈ L→z.path=x.path→z=y:=fun z hz e=>by
  obtain⟨_,u2,_⟩:=kx h.d_ (p:=x.path);obtain⟨i,h1,h2⟩:=u2 z hz e;obtain⟨j,h3,h4⟩:=u2 y hy hp;rw[h1]at h3;cases h3;rw[h2]at h4;exact Option.some.inj h4
 refine⟨Ka h.d_ x,fun z hz=>?_,fun z hz=>?_,?_⟩
 ·rcases sI.1 hz with rfl|⟨h1,_⟩
  ·exact hx
  ·exact h.ok z h1
 ·have key:∀p,qd L p→qd (iT L x) p:=by
   rintro p (h1|⟨z,hz,h2,h3⟩)
   ·exact .inl h1
   ·refine .inr ⟨z,sI.2<|.inr ⟨hz,fun e=>?_⟩,h2,h3⟩;have:=hk z hz e;subst this;rw[qi]at h3;cases h3
  rcases sI.1 hz with rfl|⟨h1,_⟩
  ·have:=h.home y hy;rw[hp]at this;exact key _ this
  ·exact key _<|h.home z h1
 ·
  have h1:=Sp.FX L x;have : (iT L x).length ≤ L.length := by
   have key : ∀ (L : List aj), L.Pairwise fS → (∃ y, y ∈ L ∧ y.path = x.path) → (eU x false L).length ≤ L.length := by
    intro L;induction L with
    | nil=>rintro _ ⟨y,hy,_⟩;simp at hy
    | cons z r ih =>
     rintro hs ⟨y,hy,hp⟩;rw[List.pairwise_cons]at hs;simp only[eU,Bool.not_false,Bool.true_and,Bool.false_or,List.length_append,List.length_cons];cases hl:lt z.path x.path with
     | true =>
      have de:¬z.path=x.path:=nY hl;have hyr:y ∈ r:=by
       rcases List.mem_cons.1 hy with rfl|h
       ·exact absurd hp de
       ·exact h
      have:=ih hs.2 ⟨y,hyr,hp⟩;simp only[Bool.not_true,Bool.false_eq_true,if_false,de,List.length_nil,List.length_cons];omega
     | false =>
      have:=(Aa x r).length_le;by_cases e:z.path=x.path
      ·simp only[Bool.not_false,if_true,e,List.length_nil,List.length_cons];omega
      ·exfalso;rcases List.mem_cons.1 hy with rfl|h
       ·exact e hp
       ·have:=hs.1 y h;unfold fS at this;rw[hp,hl]at this;cases this
   exact key L h.d_ ⟨y,hy,hp⟩
  have:=h.len;omega
theorem put_eq {T:Nd}{L:List aj}{x:aj}(nb:Nat)(h:ci T L)(hx:fB x=true):(T.kN x nb).isSome=(dZ L x).isSome∧∀T',T.kN x nb=some T'→ci T' ((dZ L x).getD []):=by
 have hp:=tP hx;unfold kN;rw[wV h hp];cases ha:T.at_ (cut x.path) with
 | none =>
  have hn:∀y,y ∈ L→y.path≠x.path:=fun y hy e=>by
   have:=(h.mem y).1 hy;rw[e,Tz ha]at this;cases this
  have hc:T.cnt=L.length:=by rw[←h.flat,uN]
  simp only[hc];by_cases hl:L.length<12
  ·simp only[hl,if_true];cases hi:T.ins x nb with
   | none=>rw[aaB h hx hn<|.inr hi];simp
   | some T' =>
    have ht:=abx h hx hl hi;rw[auM h.vt hx hn ht.1.vt];exact⟨rfl,fun T2 e=>by cases e;exact ht.1⟩
  ·simp only[hl,if_false];rw[aaB (T:=T) (nb:=nb) h hx hn<|.inl<|by omega];simp
 | some cO =>
  have hm:(⟨x.path,cO.dir,cO.ids⟩:aj) ∈ L:=(h.mem _).2 (by simp[dL,ha]);obtain⟨i,h1,h2⟩:=(kx h.vt.d_ (p:=x.path)).2.1 _ hm rfl;simp only;by_cases hd:(cO.dir||x.dir)=true
  ·simp only[hd,if_true];have:dZ L x=none:=by simp[dZ,h1,h2,hd]
   rw[this];simp
  ·simp only[hd,Bool.false_eq_true,if_false];have IS:cO.dir=false:=by
    cases e:cO.dir with
    | false=>rfl
    | true=>simp[e]at hd
   have vS:x.dir=false:=by
    cases e:x.dir with
    | false=>rfl
    | true=>simp[e]at hd
   have hv:=awI h.vt hx hm rfl IS;have jF:dZ L x=some (iT L x):=by
    simp[dZ,jI.2 h.vt,hx,h1,h2,IS,vS,jI.2 hv]
   rw[jF];refine⟨rfl,fun T' e=>?_⟩;simp only[Option.some.injEq]at e;subst e;rw[xR hp];have qW:(Af x.ids cO).wf:=by
    have:=(Ay h.wf ha).1;exact(kz _).2 ((kz cO).1 this)
   have hw:=Kx (f:=Af x.ids) (fun _=>rfl) _ T cO h.wf ha qW;refine⟨hw,by rw[SL T (Af x.ids)<|fun _=>rfl];exact h.dir,U4 h hw<|fun ms=>?_,hv⟩;rw[Hh (f:=Af x.ids) (fun _=>rfl) (fun _=>rfl) _ T cO ha ms];by_cases se:cut x.path <+: ms
   ·obtain⟨q,rfl⟩:=se;simp only[List.prefix_append,if_true,List.drop_left,adY];have e2:cO.dL q=T.dL (cut x.path++q):=by simp only[dL,Av,ha,Option.bind_some]
    by_cases e:q=[]
    ·subst e;simp[IS,vS]
    ·have:¬(cut x.path++q=cut x.path):=fun h=>e (by simpa using h);simp only[e,this,if_false,e2]
   ·have:¬ms=cut x.path:=fun e=>se (by rw[e];exact List.prefix_refl _);simp only[se,this,if_false]
theorem as5 {L:List aj}(h:L.Pairwise fS){p:Bs}{i:Nat}(hi:cD L p=some i)(y:aj):y ∈ L.take i++L.drop (i+1)↔y ∈ L∧y.path≠p:=by
 obtain⟨u1,u2,_⟩:=kx h (p:=p);obtain⟨z,hz,hp⟩:=u1 i hi;have hs:L=L.take i++z::L.drop (i+1):=by rw[←pc hz,List.take_append_drop]
 have zi:=h;rw[hs,List.pairwise_append,List.pairwise_cons]at zi;rw[List.mem_append];constructor
 ·rintro(h1|h1)
  ·refine⟨List.mem_of_mem_take h1,?_⟩;rw[←hp];exact nY (zi.2.2 y h1 z<|by simp)
  ·refine⟨List.mem_of_mem_drop h1,?_⟩;rw[←hp];exact fun e=>nY (zi.2.1.1 y h1) e.symm
 ·rintro⟨h1,h2⟩;rw[hs]at h1;rcases List.mem_append.1 h1 with h1|h1
  ·exact .inl h1
  ·rcases List.mem_cons.1 h1 with rfl|h1
   ·exact absurd hp h2
   ·exact .inr h1
theorem LD {α:Type}(L:List α)(i:Nat):(L.take i++L.drop (i+1)).Sublist L:=by
 rw[←List.eraseIdx_eq_take_drop_succ];exact List.eraseIdx_sublist _ _
theorem drop_eq {T:Nd}{L:List aj}(h:ci T L)(p:Bs):(T.mh p).isSome=(im L p).isSome∧∀T',T.mh p=some T'→ci T' ((im L p).getD []):=by
 have hf:=yy h p;have aP:T.find p=none→im L p=none:=by
  intro e;rw[e]at hf;cases ha:cD L p with
  | none=>simp[im,ha]
  | some i =>
   obtain⟨y,hy,_⟩:=(kx h.vt.d_ (p:=p)).1 i ha;rw[ha]at hf;simp[hy]at hf
 unfold mh;cases fe:T.gQ p with
 | none =>
  have:T.find p=none:=by simp[find,fe]
  rw[aP this];simp
 | some y =>
  obtain⟨d,n⟩:=y;obtain⟨hp,hc,ha,DV,hn⟩:=lW fe;cases hk:d.c_ n with
  | none =>
   have:T.find p=none:=by simp[find,fe,hk]
   rw[aP this];simp[hk]
  | some k =>
   have Ir:T.find p=some k:=by simp[find,fe,hk]
   rw[Ir]at hf;simp only[Option.map_some]at hf;obtain⟨i,hi,hz⟩:=Option.bind_eq_some_iff.1 hf.symm;have dS:T.at_ (cut p)=some k:=by rw[←wV h hp];exact Ir
   have oI:=Ay h.wf dS;have qa:=as5 h.vt.d_ hi;simp only[hk];by_cases hl:0<k.kids.length
   ·simp only[hl,if_true]
    have Dp:¬cU (L.take i++L.drop (i+1))=true:=fun hv=>by
     have hv:=jI.1 hv;have hq:k.kids[0] ∈ k.kids:=by simp
     have IY:=((kz k).1 oI.1).2 _ hq
     have y3:cut (join<|cut p++[k.kids[0].name])=cut p++[k.kids[0].name]:=Ht (by simp) (fun m hm=>by
      rcases List.mem_append.1 hm with hm|hm
      ·exact JH<|GR<|oI.2 m hm
      ·simp at hm;subst hm;exact JH<|GR IY.1)
     have xf:(⟨join<|cut p++[k.kids[0].name],k.kids[0].dir,k.kids[0].ids⟩:aj) ∈ L:=(h.mem _).2 (by
      simp only[y3,dL,yj,dS,Option.bind_some,QT oI.1 hq,Option.map_some])
     have de:join (cut p++[k.kids[0].name])≠p:=fun e=>by
      have:=congrArg (fun q=>(cut q).length) e;simp only[y3]at this;simp at this
     rcases hv.home _ ((qa _).2 ⟨xf,de⟩) with h1|⟨z,iG,ku,_⟩
     ·simp only[y3]at h1;have:=List.length_pos_iff.2<|lx p;rw[List.length_append,List.length_singleton]at h1;omega
     ·simp only[y3,List.dropLast_concat]at ku;exact((qa z).1 iG).2 (AI ku)
    have:im L p=none:=by simp[im,hi,Dp]
    rw[this];simp
   ·simp only[hl,if_false];have Ob:k.kids=[]:=List.eq_nil_of_length_eq_zero (by omega);have hv:VT (L.take i++L.drop (i+1)):=by
     have hs:=LD L i;refine⟨h.vt.d_.sublist hs,fun y hy=>h.vt.ok y<|hs.mem hy,fun y hy=>?_,Nat.le_trans hs.length_le h.vt.len⟩;obtain⟨X_,hyp⟩:=(qa y).1 hy;rcases h.vt.home y X_ with h1|⟨z,iG,ku,dU⟩
     ·exact .inl h1
     ·refine .inr ⟨z,(qa z).2 ⟨iG,fun e=>?_⟩,ku,dU⟩;subst e;have BB:=(h.mem y).1 X_;have hcy:cut y.path=cut z.path++[(cut y.path).getLast<|lx _]:=by rw[ku];exact(List.dropLast_concat_getLast _).symm
      rw[hcy,dL,yj,dS]at BB;simp[c_,Ob]at BB
    have l6:im L p=some (L.take i++L.drop (i+1)):=by simp[im,jI.2 h.vt,hi,jI.2 hv]
    rw[l6];refine⟨rfl,fun T' e=>?_⟩;simp only[Option.some.injEq]at e;subst e;rw[xR hp];have DW:=(Ay h.wf ha).1;have hw:=Kx (f:=nN n) (fun _=>rfl) _ T d h.wf ha<|abR DW hk;refine⟨hw,by rw[SL T (nN n)<|fun _=>rfl];exact h.dir,U3 hw hv.d_<|fun y=>?_,hv⟩;rw[Option.getD_some,qa,h.mem y,Hh (f:=nN n) (fun _=>rfl) (fun _=>rfl) _ T d ha];by_cases se:(cut p).dropLast <+: cut y.path
    ·obtain⟨q,hq⟩:=se;rw[←hq];simp only[List.prefix_append,if_true,List.drop_left];rw[adW DW hk Ob];have e2:d.dL q=T.dL ((cut p).dropLast++q):=by simp only[dL,Av,ha,Option.bind_some]
     by_cases e:q=[n]
     ·have:y.path=p:=AI (by rw[←hq,e];exact hc.symm);simp[e,this]
     ·have:y.path≠p:=fun h=>e (by rw[h,hc]at hq;simpa using hq);simp only[e,if_false,e2,this,ne_eq,not_false_eq_true,and_true]
    ·have:y.path≠p:=fun e=>se (by rw[e,hc];simp);simp only[se,if_false,this,ne_eq,not_false_eq_true,and_true]
theorem aav (x:aj):∀{L:List aj},(∀y,y ∈ L→lt y.path x.path=true)→eU x false L=L++[x]
 | [],_=>rfl
 | z::r,h=>by
  have hz:=h z (by simp);have de:¬z.path=x.path:=nY hz;have ih:=aav x (L:=r) (fun y hy=>h y<|by simp[hy]);simp only[eU,hz,Bool.not_true,Bool.and_false,Bool.false_eq_true,if_false,de,Bool.or_false,List.nil_append,List.cons_append,ih]
theorem av1 (b:Nat):ci (.mk b [] true [] []) []:=⟨(kz _).2 ⟨by simp[kids],by simp[kids]⟩,rfl,rfl,.nil,by simp,by simp,by simp⟩
def sD (L:List aj)(k:Nat):Bs:=if k=0 then[] else((L[k-1]?).map (·.path)).getD []
theorem asi {L:List aj}{k:Nat}{x:aj}(h:L[k]? = some x):sD L (k+1)=x.path:=by simp[sD,h]
theorem asj {L:List aj}{k:Nat}{x:aj}(hk:k<L.length)(hs:(L.take k).Pairwise fS)(h:lt (sD L k) x.path=true):∀y,y ∈ L.take k→lt y.path x.path=true:=by
 intro y hy;obtain⟨j,hj⟩:=List.getElem?_of_mem hy;have ig:=List.getElem?_eq_some_iff.1 hj;have hlen:(L.take k).length=k:=by simp;omega
 have vg:=ig.1;have j5:k≠0:=by omega
 have lC:k-1<L.length:=by omega
 have ajF:sD L k=L[k-1].path:=by simp[sD,j5,lC]
 rw[ajF]at h;by_cases e:j=k-1
 ·subst e;have:y=L[k-1]:=by rw[←ig.2];simp
  rw[this];exact h
 ·have h2:=List.pairwise_iff_getElem.1 hs j (k-1) ig.1 (by omega) (by omega);rw[ig.2]at h2;have h3:(L.take k)[k-1]'(by omega)=L[k-1]:=by simp
  rw[h3]at h2;exact lt_trans h2 h
theorem auj {T T':Nd}{L:List aj}{k:Nat}{x:aj}{nb:Nat}(h:ci T (L.take k))(hx:L[k]? = some x)(hl:L.length≤12)(ef:lt (sD L k) x.path=true)(hi:fB x=true)(p8:T.ins x nb=some T'):ci T' (L.take<|k+1):=by
 have hk:=(List.getElem?_eq_some_iff.1 hx).1;have h1:=(abx h hi (by simp;omega) p8).1;have:iT (L.take k) x=L.take (k+1):=by
  rw[gZ hx];exact aav x<|asj hk h.vt.d_ ef
 rw[this]at h1;exact h1
theorem aui {T:Nd}{L:List aj}{k:Nat}{x:aj}(nb:Nat)(h:ci T (L.take k))(hx:L[k]? = some x)(hv:cU L=true):lt (sD L k) x.path=true∧fB x=true∧(T.ins x nb).isSome=true:=by
 have hv:=jI.1 hv;have hk:=List.getElem?_eq_some_iff.1 hx;have X5:=List.mem_of_getElem? hx;have hi:=hv.ok x X5;have ahY:∀y,y ∈ L→lt y.path x.path=true→y ∈ L.take k:=by
  intro y hy ef;obtain⟨j,hj⟩:=List.getElem?_of_mem hy;have ig:=List.getElem?_eq_some_iff.1 hj;have vg:=ig.1;have:j<k:=by
   rcases Nat.lt_trichotomy j k with g|g|g
   ·exact g
   ·subst g;rw[hj]at hx;cases hx;rw[lt_irrefl]at ef;cases ef
   ·have h2:=List.pairwise_iff_getElem.1 hv.d_ k j hk.1 ig.1 g;rw[hk.2,ig.2]at h2;have:=lt_asymm h2;rw[this]at ef;cases ef
  rw[List.mem_take_iff_getElem];exact⟨j,by omega,ig.2⟩
 refine⟨?_,hi,?_⟩
 ·by_cases j5:k=0
  ·subst j5
   have de:x.path≠[]:=fun e=>by
    have h1:=(Kb<|tP hi).1;rw[e]at h1;exact ab0 (h1 []<|by simp[cut]) rfl
   simp only[sD,if_true];have:=Rq (p:=[]) de;simpa using this
  ·have h1:k-1<L.length:=by have:=hk.1;omega
   have h2:=List.pairwise_iff_getElem.1 hv.d_ (k-1) k h1 hk.1 (by omega);rw[hk.2]at h2;simp only[sD,j5,if_false];simp[h1];exact h2
 ·have hh:qd (L.take k) x.path:=by
   rcases hv.home x X5 with h1|⟨z,hz,h1,h2⟩
   ·exact .inl h1
   ·refine .inr ⟨z,ahY z hz ?_,h1,h2⟩;have DQ:cut x.path=cut z.path++[(cut x.path).getLast<|lx _]:=by rw[h1];exact(List.dropLast_concat_getLast _).symm
    have:x.path=z.path++47::(cut x.path).getLast (lx _):=by
     apply AI;rw[CB,CC<|Un _ _<|List.getLast_mem _];exact DQ
    rw[this];exact Rq (by simp)
  obtain⟨d,h1,h2⟩:=h.LF hh;have h3:T.at_ (cut x.path)=none:=by
   cases e:T.at_ (cut x.path) with
   | none=>rfl
   | some q =>
    exfalso;have hm:(⟨x.path,q.dir,q.ids⟩:aj) ∈ L.take k:=(h.mem _).2 (by simp[dL,e]);obtain⟨j,vg,Wu⟩:=List.mem_take_iff_getElem.1 hm;have Iw:j<k∧j<L.length:=by omega
    have h4:=List.pairwise_iff_getElem.1 hv.d_ j k Iw.2 hk.1 Iw.1;rw[hk.2,Wu]at h4;unfold fS at h4;rw[lt_irrefl]at h4;cases h4
  obtain⟨T',h4⟩:=YK (nb:=nb) (tP hi) h1 h2 h3;rw[h4];rfl
theorem SJ {T:Nd}{L:List aj}{k:Nat}{x:aj}(nb:Nat)(h:ci T (L.take k))(hx:L[k]? = some x)(Dp:lt (sD L k) x.path=false∨fB x=false∨T.ins x nb=none):cU L=false:=by
 cases e:cU L with
 | false=>rfl
 | true =>
  obtain⟨h1,h2,h3⟩:=aui nb h hx e;rcases Dp with g|g|g
  ·rw[h1]at g;cases g
  ·rw[h2]at g;cases g
  ·rw[g]at h3;cases h3
theorem av8 {L:List aj}(h:12<L.length):cU L=false:=by
 have:¬L.length≤12:=by omega
 simp[cU,this]
end Fw.Nd
namespace Fw
open Go
abbrev ptr (b:Nat):Value:= .pointer<|some ⟨b,0,none⟩
def oZ:PH→Nd→List Value→Prop:=fun _ k cs=>cs=[ptr k.b]
instance:ik oZ:=⟨fun _ h=>h⟩
mutual
def e9 (G:PH):Nd→Prop
 | .mk b nm d ids ks=>nm.length≤16777216∧(∃a m c a' m' c',fw G b 0 [str nm,.bool d,.slice a m c,.slice a' m' c']∧dv G (.slice a m c) ids∧aU iN oZ 1 G (.slice a' m' c') ks)∧kU G ks
def kU (G:PH):List Nd→Prop
 | []=>True
 | k::r=>e9 G k∧kU G r
end
theorem Ar {G:PH}:∀{l:List Nd},kU G l↔∀k,k ∈ l→e9 G k
 | []=>by simp[kU]
 | k::r=>by simp only[kU,Ar (l:=r),List.mem_cons,forall_eq_or_imp]
mutual
theorem e9.o7 {G G':PH}(hle:an G G'):∀{t:Nd},e9 G t→e9 G' t
 | .mk _ _ _ _ ks,h=>by
  simp only[e9]at h ⊢;obtain⟨h1,⟨a,m,c,a',m',c',h2,h3,h4⟩,h5⟩:=h;exact⟨h1,⟨a,m,c,a',m',c',h2.up hle,h3.up hle,h4.up hle⟩,kU.o7 hle h5⟩
theorem kU.o7 {G G':PH}(hle:an G G'):∀{l:List Nd},kU G l→kU G' l
 | [],_=>by simp[kU]
 | k::r,h=>by
  simp only[kU]at h ⊢;exact⟨e9.o7 hle h.1,kU.o7 hle h.2⟩
end
theorem e9.up {G G':PH}{t:Nd}(h:e9 G t)(hle:an G G'):e9 G' t:=e9.o7 hle h
def ZN:PH→Nd→List Value→Prop:=fun G k cs=>cs=[ptr k.b]∧e9 G k
instance:ik ZN:=⟨fun hle h=>⟨h.1,h.2.up hle⟩⟩
abbrev He:=aU iN ZN 1
theorem aU.abV {G:PH}{v:Value}{ks:List Nd}(h:aU iN oZ 1 G v ks)(hk:∀k,k ∈ ks→e9 G k):He G v ks:=by
 obtain⟨a,c,h1,h2,h3,h4⟩:=h;refine⟨a,c,h1,h2,h3,h4.imp id<|fun⟨b,o,h5,h6⟩=>⟨b,o,h5,fun i x hx=>?_⟩⟩;obtain⟨cs,e1,e2,e3⟩:=h6 i x hx;exact⟨cs,e1,⟨e2,hk x<|List.mem_of_getElem? hx⟩,e3⟩
theorem e9.open {G:PH}{t:Nd}(h:e9 G t):t.name.length≤16777216∧∃a m c a' m' c',fw G t.b 0 [str t.name,.bool t.dir,.slice a m c,.slice a' m' c']∧dv G (.slice a m c) t.ids∧He G (.slice a' m' c') t.kids:=by
 obtain⟨b,nm,d,ids,ks⟩:=t;simp only[e9]at h;obtain⟨h1,⟨a,m,c,a',m',c',h2,h3,h4⟩,h5⟩:=h;exact⟨h1,a,m,c,a',m',c',h2,h3,h4.abV<|Ar.1 h5⟩
theorem e9.c_ {G:PH}{t k:Nd}(h:e9 G t)(hk:k ∈ t.kids):e9 G k:=by
 obtain⟨b,nm,d,ids,ks⟩:=t;simp only[e9]at h;exact Ar.1 h.2.2 k hk
theorem e9.at {G:PH}:∀{ns:List Bs} {t d:Nd},e9 G t→t.at_ ns=some d→e9 G d
 | [],t,d,h,ha=>by simp only[Nd.at_,Option.some.injEq]at ha;subst ha;exact h
 | n::r,t,d,h,ha=>by
  simp only[Nd.at_]at ha;cases hk:t.c_ n with
  | none=>simp[hk]at ha
  | some q =>
   simp only[hk]at ha;exact e9.at (h.c_ (Nd.px hk).1) ha
def wI (w:World)(φ:Value→Prop):Ending→World→Prop:=fun e w'=>∃v,e= .returned v∧Ext w w'∧φ v
theorem Hp.n_ {w0 w:World}{G0 G:PH}{B:List aW}{φ:Value→Prop}{v:Value}(H:Hp w0 G0 [] w G B)(h:φ v):wI w0 φ (.returned v) w:=⟨v,rfl,H.Kl,h⟩
section
variable (NT PT:TypeId)
def yf (ks:List Nd)(kv:Value)(Fk Fs:Fr):Prop :=
 (kv= .slice none 0 0∧ks=[]∧Fk=Fs) ∨
 ∃kb cap C,kv= .slice (some ⟨kb,0,none⟩) ks.length cap∧ks.length≤cap∧cap≤maxLen∧cap≤C.size∧C.toList.take ks.length=ks.map (fun k=>ptr k.b)∧Fk=(kb,.cells C PT (0,0))::Fs
mutual
def bP (G:PH):Nd→Fr→Prop
 | .mk b nm d ids ks=>fun F=>nm.length≤16777216∧ks.length≤1099511627776∧∃a m c kv Fk Fs,F=(b,cl [str nm,.bool d,.slice a m c,kv] NT)::Fk∧dv G (.slice a m c) ids∧yf PT ks kv Fk Fs∧bL G ks Fs
def bL (G:PH):List Nd→Fr→Prop
 | []=>fun F=>F=[]
 | k::r=>fun F=>∃F1 F2,F=F1++F2∧bP G k F1∧bL G r F2
end
end
section
variable {NT PT:TypeId}
mutual
theorem bP.o7 {G G':PH}(hle:an G G'):∀{t:Nd} {F:Fr},bP NT PT G t F→bP NT PT G' t F
 | .mk _ _ _ _ ks,F,h=>by
  simp only[bP]at h ⊢;obtain⟨h1,h0,a,m,c,kv,Fk,Fs,h2,h3,h4,h5⟩:=h;exact⟨h1,h0,a,m,c,kv,Fk,Fs,h2,h3.up hle,h4,bL.o7 hle h5⟩
theorem bL.o7 {G G':PH}(hle:an G G'):∀{l:List Nd} {F:Fr},bL NT PT G l F→bL NT PT G' l F
 | [],F,h=>by simpa [bL] using h
 | k::r,F,h=>by
  simp only[bL]at h ⊢;obtain⟨F1,F2,h1,h2,h3⟩:=h;exact⟨F1,F2,h1,bP.o7 hle h2,bL.o7 hle h3⟩
end
theorem bP.up {G G':PH}{t:Nd}{F:Fr}(h:bP NT PT G t F)(hle:an G G'):bP NT PT G' t F:=bP.o7 hle h
theorem bL.up {G G':PH}{t:List Nd}{F:Fr}(h:bL NT PT G t F)(hle:an G G'):bL NT PT G' t F:=bL.o7 hle h
theorem yf.rd {G:PH}{ks:List Nd}{kv:Value}{Fk Fs:Fr}(h:yf PT ks kv Fk Fs)(hl:ks.length≤1099511627776)(hle:an (fh Fk) G):∃a m c,kv= .slice a m c∧aU iN oZ 1 G (.slice a m c) ks:=by
 rcases h with ⟨rfl,rfl,_⟩|⟨kb,cap,C,rfl,h1,h2,h3,h4,rfl⟩
 ·exact⟨_,_,_,rfl,aU.nil _ _ _⟩
 ·refine⟨_,_,_,rfl,some ⟨kb,0,none⟩,cap,rfl,by simpa using h1,by simpa [iN] using hl,.inr ⟨kb,0,rfl,fun i x hx=>?_⟩⟩;refine⟨[ptr x.b],rfl,rfl,fun j u hu=>?_⟩;have hj:j=0:=by
   have:=(List.getElem?_eq_some_iff.1 hu).1;simp at this;exact this
  subst hj;simp at hu;subst hu;refine⟨C,PT,(0,0),hle _ _<|by simp[fh],?_⟩;have h5:(C.toList.take ks.length)[i]? = some (ptr x.b):=by rw[h4,List.getElem?_map,hx];rfl
  rw[List.getElem?_take]at h5;split at h5
  ·simpa using h5
  ·cases h5
mutual
theorem bP.rd {G R:PH}(hle:an G R):∀{t:Nd} {F:Fr},bP NT PT G t F→an (fh F) R→(dm F).Nodup→e9 R t
 | .mk b nm d ids ks,F,h,hF,hn=>by
  simp only[bP]at h;simp only[e9];obtain⟨h1,h0,a,m,c,kv,Fk,Fs,rfl,h3,h4,h5⟩:=h;have qc:b ∉ dm Fk∧(dm Fk).Nodup:=by simpa [dm] using hn
  have Vl:an (fh Fk) R:=fun x o hx=>hF x o (by
   have:¬b=x:=fun e=>qc.1 (by rw[e];exact yx hx);simp[fh,this,hx])
  obtain⟨a',m',c',rfl,h6⟩:=h4.rd h0 Vl;refine⟨h1,⟨a,m,c,a',m',c',fun j u hu=>⟨[str nm,.bool d,.slice a m c,.slice a' m' c'].toArray,NT,(0,0),hF b _<|by simp[fh,cl],by rw[Nat.zero_add];simpa using hu⟩,h3.up hle,h6⟩,?_⟩;rcases h4 with ⟨_,rfl,rfl⟩|⟨kb,cap,C,_,_,_,_,_,rfl⟩
  ·simp[kU]
  ·have xn:kb ∉ dm Fs∧(dm Fs).Nodup:=by simpa [dm] using qc.2
   exact bL.rd hle h5 (fun x o hx=>Vl x o (by
    have:¬kb=x:=fun e=>xn.1 (by rw[e];exact yx hx);simp[fh,this,hx])) xn.2
theorem bL.rd {G R:PH}(hle:an G R):∀{l:List Nd} {F:Fr},bL NT PT G l F→an (fh F) R→(dm F).Nodup→kU R l
 | [],_,_,_,_=>by simp[kU]
 | k::r,F,h,hF,hn=>by
  simp only[bL]at h;simp only[kU];obtain⟨F1,F2,rfl,h2,h3⟩:=h;rw[pU]at hn;obtain⟨n1,n2,n3⟩:=List.nodup_append.1 hn;exact⟨bP.rd hle h2 ((CM _ _).trans hF) n1,bL.rd hle h3 ((CN<|fun b h1 h2=>n3 b h1 b h2 rfl).trans hF) n2⟩
end
theorem bL.at {G:PH}{n:Bs}:∀{l:List Nd} {F:Fr} {k:Nd},bL NT PT G l F→l.find? (fun q=>decide (q.name=n))=some k →
  ∃Fk R,F.Perm (Fk++R)∧bP NT PT G k Fk∧∀G' k' nI,an G G'→bP NT PT G' k' nI→∃F',F'.Perm (nI++R)∧bL NT PT G' (Nd.iu n (fun _=>k') l) F'
 | [],F,k,_,h=>by simp at h
 | q::r,F,k,ho,h=>by
  simp only[bL]at ho;obtain⟨F1,F2,rfl,h2,h3⟩:=ho;rw[List.find?_cons]at h;by_cases e:q.name=n
  ·simp only[e,decide_true,Option.some.injEq]at h;subst h;refine⟨F1,F2,.refl _,h2,fun G' k' nI hle j4=>⟨nI++F2,.refl _,?_⟩⟩;simp only[Nd.iu,e,if_true,bL];exact⟨nI,F2,rfl,j4,bL.o7 hle h3⟩
  ·simp only[e,decide_false]at h;obtain⟨Fk,R,p1,p2,p3⟩:=bL.at h3 h;refine⟨Fk,F1++R,?_,p2,fun G' k' nI hle j4=>?_⟩
   ·refine(List.Perm.append_left F1 p1).trans ?_;rw[←List.append_assoc,←List.append_assoc];exact List.Perm.append_right R List.perm_append_comm
   ·obtain⟨F',g1,g2⟩:=p3 G' k' nI hle j4;refine⟨F1++F',?_,?_⟩
    ·refine(List.Perm.append_left F1 g1).trans ?_;rw[←List.append_assoc,←List.append_assoc];exact List.Perm.append_right R List.perm_append_comm
    ·simp only[Nd.iu,e,if_false,bL];exact⟨F1,F',rfl,bP.o7 hle h2,g2⟩
theorem abE {n:Bs}{k k':Nd}(hb:k'.b=k.b):∀{l:List Nd},l.find? (fun q=>decide (q.name=n))=some k→(Nd.iu n (fun _=>k') l).map (fun q=>ptr q.b)=l.map (fun q=>ptr q.b)∧(Nd.iu n (fun _=>k') l).length=l.length
 | [],h=>by simp at h
 | q::r,h=>by
  rw[List.find?_cons]at h;by_cases e:q.name=n
  ·simp only[e,decide_true,Option.some.injEq]at h;subst h;simp[Nd.iu,e,hb]
  ·simp only[e,decide_false]at h;have ih:=abE hb h;simp[Nd.iu,e,ih.1,ih.2]
theorem bP.focus {G:PH}:∀(ns:List Bs) {t d:Nd} {F:Fr},bP NT PT G t F→t.at_ ns=some d →
  ∃Fd R,F.Perm (Fd++R)∧bP NT PT G d Fd∧∀G' d' yb,an G G'→bP NT PT G' d' yb→d'.b=d.b→∃F',F'.Perm (yb++R)∧bP NT PT G' (t.upd ns<|fun _=>d') F'∧(t.upd ns<|fun _=>d').b=t.b
 | [],t,d,F,h,ha=>by
  simp only[Nd.at_,Option.some.injEq]at ha;subst ha;exact⟨F,[],by simp,h,fun G' d' yb _ DS hb=>⟨yb,by simp,DS,hb⟩⟩
 | n::r,t,d,F,h,ha=>by
  simp only[Nd.at_]at ha;cases hk:t.c_ n with
  | none=>simp[hk]at ha
  | some q =>
   simp only[hk]at ha;obtain⟨b,nm,dr,ids,ks⟩:=t;simp only[bP]at h;obtain⟨h1,h0,a,m,c,kv,Fk,Fs,rfl,h3,h4,h5⟩:=h;obtain⟨Fq,R,p1,p2,p3⟩:=bL.at h5 hk;obtain⟨Fd,R2,g1,g2,g3⟩:=bP.focus r p2 ha;have j4:ks.find? (fun q=>decide (q.name=n))=some q:=hk;rcases h4 with ⟨_,rfl,_⟩|⟨kb,cap,C,rfl,k1,k2,k3,k4,rfl⟩
   ·simp at j4
   ·refine⟨Fd,R2++R++[(b,cl [str nm,.bool dr,.slice a m c,.slice (some ⟨kb,0,none⟩) ks.length cap] NT),(kb,.cells C PT (0,0))],?_,g2,fun G' d' yb hle DS hb=>?_⟩
    ·have e1:Fs.Perm (Fd++(R2++R)):=p1.trans (by rw[←List.append_assoc];exact List.Perm.append_right R g1);have e2:((b,cl [str nm,.bool dr,.slice a m c,.slice (some ⟨kb,0,none⟩) ks.length cap] NT)::(kb,.cells C PT (0,0))::Fs).Perm (Fs++[(b,cl [str nm,.bool dr,.slice a m c,.slice (some ⟨kb,0,none⟩) ks.length cap] NT),(kb,.cells C PT (0,0))]):=by
      have:=List.perm_append_comm (l₁:=[(b,cl [str nm,.bool dr,.slice a m c,.slice (some ⟨kb,0,none⟩) ks.length cap] NT),(kb,.cells C PT (0,0))]) (l₂:=Fs);exact this
     refine e2.trans ?_;rw[←List.append_assoc];exact List.Perm.append_right _ e1
    ·obtain⟨Fq',u1,u2,u3⟩:=g3 G' d' yb hle DS hb;obtain⟨Fs',v1,v2⟩:=p3 G' _ Fq' hle u2;have Fj:=abE (k':=q.upd r<|fun _=>d') u3 j4
     have DZ:Nd.iu n (fun k=>Nd.upd k r<|fun _=>d') ks=Nd.iu n (fun _=>q.upd r<|fun _=>d') ks:=by
      have key:∀l:List Nd,l.find? (fun q=>decide (q.name=n))=some q→Nd.iu n (fun k=>Nd.upd k r<|fun _=>d') l=Nd.iu n (fun _=>q.upd r<|fun _=>d') l:=by
       intro l;induction l with
       | nil=>simp
       | cons x t ih =>
        intro h;rw[List.find?_cons]at h;by_cases e:x.name=n
        ·simp only[e,decide_true,Option.some.injEq]at h;subst h;simp[Nd.iu,e]
        ·simp only[e,decide_false]at h;simp[Nd.iu,e,ih h]
      exact key ks j4
     refine⟨(b,cl [str nm,.bool dr,.slice a m c,.slice (some ⟨kb,0,none⟩) ks.length cap] NT)::(kb,.cells C PT (0,0))::Fs',?_,?_,rfl⟩
     ·have e1:Fs'.Perm (yb++(R2++R)):=v1.trans (by rw[←List.append_assoc];exact List.Perm.append_right R u1);have:=List.perm_append_comm (l₁:=[(b,cl [str nm,.bool dr,.slice a m c,.slice (some ⟨kb,0,none⟩) ks.length cap] NT),(kb,.cells C PT (0,0))]) (l₂:=Fs');refine this.trans ?_;rw[←List.append_assoc];exact List.Perm.append_right _ e1
     ·simp only[Nd.upd,Nd.b,Nd.name,Nd.dir,Nd.ids,Nd.kids,DZ,bP];refine⟨h1,by rw[Fj.2];exact h0,a,m,c,_,_,Fs',rfl,h3.up hle,.inr ⟨kb,cap,C,?_,?_,k2,k3,?_,rfl⟩,v2⟩
      ·rw[Fj.2]
      ·rw[Fj.2];exact k1
      ·rw[Fj.2,Fj.1];exact k4
end
end Fw
namespace Sp
open Fw
abbrev Kk (ks:List Nd):Prop:=ks.Pairwise<|fun a b=>lt a.name b.name=true
def pl (ks:List Nd)(nm:Bs):Nat:=(ks.takeWhile<|fun k=>lt k.name nm).length
def fd (ks:List Nd)(nm:Bs):Option Nd:=ks.find?<|fun k=>decide (k.name=nm)
def uH (a b:Bs):Int:=if lt a b then -1 else if a=b then 0 else 1
theorem TW (a b:Bs):(uH a b<0)↔lt a b=true:=by unfold uH;split<;>(try split)<;>simp_all
theorem aeE (a b:Bs):(uH a b=0)↔a=b:=by
 unfold uH;split
 ·rename_i h;simp;exact nY h
 ·split<;>simp_all
theorem auP {ks:List Nd}{nm:Bs}(hp:Kk ks){h:Nat}{z:Nd}(hz:ks[h]? = some z)(hl:lt z.name nm=true):∀k x,k<h+1→ks[k]? = some x→lt x.name nm=true:=by
 intro k x hk hx;rcases Nat.lt_or_ge k h with h1|h1
 ·obtain⟨lC,rfl⟩:=List.getElem?_eq_some_iff.1 hx;obtain⟨jB,rfl⟩:=List.getElem?_eq_some_iff.1 hz;exact lt_trans (List.pairwise_iff_getElem.1 hp k h lC jB h1) hl
 ·obtain rfl:k=h:=by omega
  rw[hx]at hz;cases hz;exact hl
theorem auO {ks:List Nd}{nm:Bs}(hp:Kk ks){h:Nat}{z:Nd}(hz:ks[h]? = some z)(hl:lt z.name nm=false):∀k x,h≤k→ks[k]? = some x→lt x.name nm=false:=by
 intro k x hk hx;rcases Nat.lt_or_ge h k with h1|h1
 ·obtain⟨lC,rfl⟩:=List.getElem?_eq_some_iff.1 hx;obtain⟨jB,rfl⟩:=List.getElem?_eq_some_iff.1 hz;cases e:lt ks[k].name nm with
  | false=>rfl
  | true=>rw[lt_trans (List.pairwise_iff_getElem.1 hp h k jB lC h1) e]at hl;cases hl
 ·obtain rfl:k=h:=by omega
  rw[hx]at hz;cases hz;exact hl
theorem R4 {nm:Bs}:∀{ks:List Nd} {i:Nat},i≤ks.length→(∀k x,k<i→ks[k]? = some x→lt x.name nm=true)→(∀k x,i≤k→ks[k]? = some x→lt x.name nm=false)→pl ks nm=i
 | [],i,h1,_,_=>by simp[pl]at *; omega
 | q::r,i,h1,h2,h3=>by
  cases i with
  | zero =>
   have:=h3 0 q (Nat.le_refl _) rfl;simp[pl,this]
  | succ i =>
   have:=h2 0 q (by omega) rfl;have ih:=R4 (ks:=r) (i:=i) (nm:=nm) (by simpa using h1) (fun k x hk hx=>h2 (k+1) x (by omega)<|by simpa using hx) (fun k x hk hx=>h3 (k+1) x (by omega)<|by simpa using hx);unfold pl at ih ⊢;rw[List.takeWhile_cons,this];simp[ih]
theorem UT {nm:Bs}{ks:List Nd}(h:∀(k:Nat) (x:Nd),ks[k]? = some x→x.name≠nm):fd ks nm=none:=List.find?_eq_none.2 (fun x hx=>by
 obtain⟨k,hk⟩:=List.getElem?_of_mem hx;simpa using h k x hk)
theorem afU {nm:Bs}{ks:List Nd}(h:∀(k:Nat) (x:Nd),k<ks.length→ks[k]? = some x→lt x.name nm=true):fd ks nm=none:=UT<|fun k x hk=>nY<|h k x (List.getElem?_eq_some_iff.1 hk).1 hk
theorem afT {nm:Bs}{ks:List Nd}(hp:Kk ks){i:Nat}{z:Nd}(hz:ks[i]? = some z)(h:∀(k:Nat) (x:Nd),k<i→ks[k]? = some x→lt x.name nm=true)(h':∀(k:Nat) (x:Nd),i≤k→ks[k]? = some x→lt x.name nm=false):(fd ks nm).isSome=decide (z.name=nm)∧(z.name=nm→fd ks nm=some z):=by
 by_cases e:z.name=nm
 ·have:fd ks nm=some z:=by
   have:=Nd.LX hp<|List.mem_of_getElem? hz;rw[e]at this;exact this
  exact⟨by simp[this,e],fun _=>this⟩
 ·refine⟨?_,fun h=>absurd h e⟩
  have:fd ks nm=none:=UT (fun k x hx=>by
   rcases Nat.lt_trichotomy k i with h1|h1|h1
   ·exact nY<|h k x h1 hx
   ·subst h1;rw[hx]at hz;cases hz;exact e
   ·intro e2;obtain⟨lC,rfl⟩:=List.getElem?_eq_some_iff.1 hx;obtain⟨jB,rfl⟩:=List.getElem?_eq_some_iff.1 hz;have h3:=List.pairwise_iff_getElem.1 hp i k jB lC h1;rw[e2]at h3;rw[h' i _ (Nat.le_refl _)<|by simp[jB]]at h3;cases h3)
  simp[this,e]
end Sp
namespace Fw.Nd
open Sp
theorem Tw {t d:Nd}{ps:List Bs}{k:Nat}{z:Bs}(hz:ps[k]? = some z)(h:t.at_ (ps.take k)=some d):t.at_ (ps.take<|k+1)=d.c_ z:=by
 rw[List.take_succ,hz,Option.toList_some,yj,h];rfl
theorem adU {t d:Nd}{ps:List Bs}{k:Nat}{z:Bs}(hz:ps[k]? = some z)(h:t.at_ (ps.take k)=some d)(hn:d.c_ z=none):t.at_ ps=none:=by
 rw[←List.take_append_drop (k+1) ps,Av,Tw hz h,hn];rfl
theorem at_one (d:Nd)(n:Bs):d.at_ [n]=d.c_ n:=by
 simp only[at_];cases d.c_ n<;>rfl
theorem uL {T k:Nd}{p:Bs}(h:T.find p=some k):T.at_ (cut p)=some k:=by
 unfold find at h;cases hd:T.gQ p with
 | none=>simp[hd]at h
 | some q =>
  obtain⟨d,n⟩:=q;simp only[hd]at h;obtain⟨h1,h2,h3,h4,h5⟩:=lW hd;rw[h2,yj,h3];exact h
theorem ae_ {T:Nd}{p:Bs}(h:(parts p).length=0):T.gQ p=none:=by
 unfold gQ;rw[List.eq_nil_of_length_eq_zero h]
theorem LG {T:Nd}{p z:Bs}{j:Nat}(hj:j+1=(parts p).length)(hz:(parts p)[j]? = some z):T.gQ p=(T.at_<|(parts p).take j).bind (fun d=>if d.dir then some (d,z) else none):=by
 unfold gQ;cases hp:parts p with
 | nil=>rw[hp]at hj;simp at hj
 | cons n r =>
  have e:(n::r).take j=(n::r).dropLast:=by rw[List.dropLast_eq_take,←hp,←hj];simp
  have hl:(n::r).getLast (by simp)=z:=by
   rw[hp]at hj hz;rw[List.getLast_eq_getElem];have:(n::r).length-1=j:=by omega
   rw[List.getElem?_eq_some_iff]at hz;obtain⟨h1,h2⟩:=hz;simp only[this];exact h2
  simp only[hl,e];cases T.at_ (n::r).dropLast<;>rfl
theorem afa {T:Nd}{p:Bs}{j:Nat}(hj:j+1=(parts p).length)(h:T.at_ ((parts p).take j)=none):T.gQ p=none:=by
 rw[LG hj<|List.getElem?_eq_getElem<|by omega,h];rfl
theorem afb {T d:Nd}{p:Bs}{j:Nat}(hj:j+1=(parts p).length)(h:T.at_ ((parts p).take j)=some d)(hd:d.dir=false):T.gQ p=none:=by
 rw[LG hj<|List.getElem?_eq_getElem<|by omega,h];simp[hd]
theorem afc {T d:Nd}{p z:Bs}{j:Nat}(hj:j+1=(parts p).length)(hz:(parts p)[j]? = some z)(h:T.at_ ((parts p).take j)=some d)(hd:d.dir=true):T.gQ p=some (d,z):=by
 rw[LG hj hz,h];simp[hd]
theorem af5 {T:Nd}{p:Bs}(h:T.gQ p=none):T.find p=none:=by simp[find,h]
theorem LY {T d:Nd}{p n:Bs}(h:T.gQ p=some (d,n)):T.find p=d.at_ [n]:=by simp[find,h,at_one]
theorem Hv {T d:Nd}{p n:Bs}(hw:T.wf)(h:T.gQ p=some (d,n)):d.wf:=(Ay hw (lW h).2.2.1).1
theorem LH {T d:Nd}{p n:Bs}(h:T.gQ p=some (d,n)):n.length≤16777216:=by
 have:=(lW h).2.2.2.2;simp only[ep,Bool.and_eq_true,decide_eq_true_eq]at this;omega
theorem T9 {k:Nd}:∀{l:List Nd},k ∈ l→k.cnt+1≤jZ l
 | [],h=>by simp at h
 | q::r,h=>by
  simp only[jZ];rcases List.mem_cons.1 h with rfl|h
  ·omega
  ·have:=T9 h;omega
theorem Y1:∀l:List Nd,l.length≤jZ l
 | []=>by simp[jZ]
 | q::r=>by have:=Y1 r;simp only[jZ,List.length_cons];omega
theorem Jv {t k:Nd}(h:k ∈ t.kids):k.cnt+1≤t.cnt:=by rw[Hq t];exact T9 h
theorem xG (t:Nd):t.kids.length≤t.cnt:=by rw[Hq];exact Y1 _
theorem Aw:∀{ns:List Bs} {t d:Nd},t.at_ ns=some d→d.cnt≤t.cnt
 | [],t,d,h=>by simp only[at_,Option.some.injEq]at h;subst h;exact Nat.le_refl _
 | n::r,t,d,h=>by
  simp only[at_]at h;cases hk:t.c_ n with
  | none=>simp[hk]at h
  | some q =>
   simp only[hk]at h;have:=Aw h;have:=Jv (px hk).1;omega
theorem aeQ {l:List Nd}{k:Nat}{z:Nd}(h:l[k]? = some z):jZ (l.take<|k+1)=jZ (l.take k)+z.cnt+1:=by
 rw[List.take_succ,h,T6];simp[jZ];omega
theorem abG:∀{ns:List Bs} {t d:Nd},t.at_ ns=some d→t.upd ns (fun _=>d)=t
 | [],t,d,h=>by simp only[at_,Option.some.injEq]at h;subst h;rfl
 | n::r,t,d,h=>by
  simp only[at_]at h;cases hk:t.c_ n with
  | none=>simp[hk]at h
  | some q =>
   simp only[hk]at h;have ih:=abG h
   have key:∀l:List Nd,l.find? (fun q=>decide (q.name=n))=some q→iu n (fun k=>k.upd r<|fun _=>d) l=l:=by
    intro l;induction l with
    | nil=>simp
    | cons x s zN =>
     intro h;rw[List.find?_cons]at h;by_cases e:x.name=n
     ·simp only[e,decide_true,Option.some.injEq]at h;subst h;simp[iu,e,ih]
     ·simp only[e,decide_false]at h;simp[iu,e,zN h]
   obtain⟨b,nm,dr,ids,ks⟩:=t;simp only[upd,Nd.b,Nd.name,Nd.dir,Nd.ids,Nd.kids];rw[key ks hk]
theorem Ko {f:Nd→Nd}:∀{ns:List Bs} {t d:Nd},t.at_ ns=some d→t.upd ns f=t.upd ns (fun _=>f d)
 | [],t,d,h=>by simp only[at_,Option.some.injEq]at h;subst h;rfl
 | n::r,t,d,h=>by
  simp only[at_]at h;cases hk:t.c_ n with
  | none=>simp[hk]at h
  | some q =>
   simp only[hk]at h;have ih:=Ko (f:=f) h
   have key:∀l:List Nd,l.find? (fun q=>decide (q.name=n))=some q→iu n (fun k=>k.upd r f) l=iu n (fun k=>k.upd r<|fun _=>f d) l:=by
    intro l;induction l with
    | nil=>simp
    | cons x s zN =>
     intro h;rw[List.find?_cons]at h;by_cases e:x.name=n
     ·simp only[e,decide_true,Option.some.injEq]at h;subst h;simp[iu,e,ih]
     ·simp only[e,decide_false]at h;simp[iu,e,zN h]
   simp only[upd];rw[key t.kids hk]
theorem YI {t:Nd}{x:aj}{nb:Nat}(h:t.gQ x.path=none):t.ins x nb=none:=by simp[ins,h]
theorem YJ {t d:Nd}{x:aj}{nm:Bs}{nb:Nat}(h:t.gQ x.path=some (d,nm))(hf:(fd d.kids nm).isSome=true):t.ins x nb=none:=by
 have:(d.c_ nm).isSome=true:=hf;simp[ins,h,this]
theorem Js {t d:Nd}{x:aj}{nm:Bs}{nb:Nat}(h:t.gQ x.path=some (d,nm))(hf:(fd d.kids nm).isSome=false) :
  t.ins x nb=some (t.upd (cut x.path).dropLast<|fun _=> .mk d.b d.name d.dir d.ids<|d.kids.take (pl d.kids nm)++ .mk nb nm x.dir x.ids []::d.kids.drop (pl d.kids nm)):=by
 have h2:(d.c_ nm).isSome=false:=hf;obtain⟨g1,_,g3,_⟩:=lW h;simp only[ins,h,h2,Bool.false_eq_true,if_false,xR g1];rw[Ko g3];rfl
theorem LI {t:Nd}{p:Bs}(h:t.gQ p=none):t.mh p=none:=by simp[mh,h]
theorem LJ {t d:Nd}{p nm:Bs}(h:t.gQ p=some (d,nm))(hf:(fd d.kids nm).isSome=false):t.mh p=none:=by
 have h0:fd d.kids nm=none:=by simpa using hf
 have:d.c_ nm=none:=h0;simp[mh,h,this]
theorem afo {t d k:Nd}{p nm:Bs}(h:t.gQ p=some (d,nm))(hf:fd d.kids nm=some k)(hk:0<k.kids.length):t.mh p=none:=by
 have:d.c_ nm=some k:=hf;simp[mh,h,this,hk]
theorem afr {t d k:Nd}{p nm:Bs}(h:t.gQ p=some (d,nm))(hf:fd d.kids nm=some k)(hk:¬0<k.kids.length) :
  t.mh p=some (t.upd (cut p).dropLast<|fun _=> .mk d.b d.name d.dir d.ids<|d.kids.take (pl d.kids nm)++d.kids.drop (pl d.kids nm+1)):=by
 have h2:d.c_ nm=some k:=hf;obtain⟨g1,_,g3,_⟩:=lW h;simp only[mh,h,h2,hk,if_false,xR g1];rw[Ko g3];rfl
theorem auK {t:Nd}{x:aj}{nb:Nat}(h:t.find x.path=none)(hc:¬t.cnt<12):t.kN x nb=none:=by simp[kN,h,hc]
theorem auI {t:Nd}{x:aj}{nb:Nat}(h:t.find x.path=none)(hc:t.cnt<12):t.kN x nb=t.ins x nb:=by simp[kN,h,hc]
theorem aaA {t d:Nd}{x:aj}{nb:Nat}(h:t.find x.path=some d)(hc:(d.dir||x.dir)=true):t.kN x nb=none:=by simp only[kN,h,hc,if_true]
theorem auL {t d:Nd}{x:aj}{nb:Nat}(h:t.find x.path=some d)(hc:(d.dir||x.dir)=false):t.kN x nb=some (t.upd (cut x.path)<|fun _=> .mk d.b d.name d.dir x.ids d.kids):=by
 have g1:cB x.path=true:=by
  cases hp:cB x.path with
  | true=>rfl
  | false=>rw[UY hp]at h;cases h
 simp only[kN,h,hc,Bool.false_eq_true,if_false,xR g1];rw[Ko<|uL h];rfl
end Fw.Nd
namespace Sp
open Fw
theorem xW (ks:List Nd)(nm:Bs):pl ks nm≤ks.length:=(List.takeWhile_prefix _).length_le
end Sp
namespace Fw.Nd
theorem Lv:∀(l:List Nd) (k:Nat),jZ (l.take k)≤jZ l
 | [],k=>by simp
 | q::r,0=>by simp[jZ]
 | q::r,k+1=>by have:=Lv r k;simp only[List.take_succ_cons,jZ];omega
theorem Kq {t d:Nd}{ns:List Bs}(h:t.at_ ns=some d):t.upd ns (fun _=> .mk d.b d.name d.dir d.ids d.kids)=t:=by rw[←eta d];exact abG h
end Fw.Nd
namespace Fw.Nd
open Sp
theorem ci.cnt {T:Nd}{L:List aj}(h:ci T L):T.cnt=L.length:=by rw[←uN [] T,h.flat]
theorem ci.valid {T:Nd}{L:List aj}(h:ci T L):cU L=true:=jI.2 h.vt
theorem getD_some {o:Option Nd}{T t:Nd}(h:o.getD T=t)(hs:o.isSome=true):o=some t:=by
 cases o with
 | none=>cases hs
 | some x=>simp only[Option.getD_some]at h;rw[h]
theorem ast {p q:Bs}(h:lt p q=true∨p=q):lt q p=false:=by
 rcases h with h|rfl
 ·exact lt_asymm h
 ·exact lt_irrefl p
theorem asu {p q:Bs}(h1:lt p q=false)(h2:p≠q):lt q p=true:=by
 rcases xJ p q with h|h|h
 ·rw[h]at h1;cases h1
 ·exact absurd h h2
 ·exact h
theorem abZ {n:Bs}(h:ep n=true):n.length≤5:=by
 simp only[ep,Bool.and_eq_true,decide_eq_true_eq]at h;exact h.2
theorem af7 {s:Bs}{l:List Nd}{k:Nat}{z:Nd}(h:l[k]? = some z):io s (l.take<|k+1)=io s (l.take k)++(⟨s++z.name,z.dir,z.ids⟩::z.flat (s++z.name++[47])):=by
 rw[List.take_succ,h,U5];simp[io]
end Fw.Nd
namespace Fw
open Go
section ops
variable {P:Program} {n:Nat} {ops:Array Oper} {Q:dp} {rest:List Oper} {L:br} {ds:List Deferred} {w w0:World} {G0:PH} {S:List Nat} {G:PH} {B:List aW}
variable {ty:TypeId} {ps:String} {af:Array Edge}
theorem atP {d:Nat}{x y:Operand}{t u:TypeId}{k k':IntKind}{p:Int}(hd:Nat.blt d n=true)(hx:od L x=some (.int k p))(hy:od L y=some (.int k' 1))(hk:1≤k.bits)
  (next:R P n ops Q rest ((d,.int k<|p / 2)::L) ds w):R P n ops Q (⟨some d,.binOp .shr t x y u,ty,ps,af,none⟩::rest) L ds w :=
 cP hd (fun a ha=>by
  have h1:min 1 k.bits=1:=by omega
  have h2:Op.shift .shr k p k' 1=pure (.int k<|p / 2):=by
   rw[shift_shr_any k k' p 1<|by decide];simp[h1]
  simp[execOp,ha.eval hx,ha.eval hy,binOp,eqGuard,h2]) next
theorem RM {d:Nat}{f:FuncId}{c:Operand}{xs:List Operand}{ts:Array TypeId}{vs:List Value}{C:Ending→World→Prop}(hf:∀args w,(callFunc f args).run P w= .ok (.enter f args) w)(hd:Nat.blt d n=true)
  (yU:od L c=some (.func (.func f) #[] #[])) (hx:lQ L xs=some vs) (hc:Calls P f vs.toArray w C) (next:∀e w',C e w'→∃v,e= .returned v∧R P n ops Q rest ((d,v)::L) ds w') :
  R P n ops Q (⟨some d,.call ⟨.value c,xs.toArray,ts⟩,ty,ps,af,none⟩::rest) L ds w:=by
 intro a ha;refine wpList_plain rfl fun K hK=>?_;have e:xs.map a.eval=vs:=ha.uK xs vs hx;have hr:(execOp a.eval ⟨some d,.call ⟨.value c,xs.toArray,ts⟩,ty,ps,af,none⟩).run P w= .ok (.enter f vs.toArray) w:=by
  simp[execOp,resolve,invoke,ha.eval yU,Deferred.ofValue,e,hf]
 unfold Oper.wp;rw[hr,Oper.upon_enter];refine hc.mono fun e w' hC=>?_;obtain⟨v,rfl,h⟩:=next e w' hC
 exact hK _ _<|h _<|ha.put hd v
theorem aa2:∀(vs:List Value) (o:Nat) (l:List Value) (w:World) {k b:Nat} {B:List aW} {e:TypeId},Hp w0 G0 S w G B→nth B k=some (ai b<|cl l e)→Hp w0 G0 S (w.setCells b o vs) G (bq B k<|ai b<|cl (ee l o vs) e)
 | [],o,l,w,k,b,B,e,H,hk=>by
  simp only[ee,World.setCells];rw[show bq B k (ai b<|cl l e)=B from ?_]
  ·exact H
  ·obtain⟨B1,B2,h1,h2,_⟩:=pd hk;rw[h2,h1]
 | v::r,o,l,w,k,b,B,e,H,hk=>by
  have H1:=Ae H hk (o:=o) v;have lC:nth (bq B k<|ai b<|cl (bq l o v) e) k=some (ai b<|cl (bq l o v) e):=by
   have:k<B.length:=by rw[ii]at hk;exact(List.getElem?_eq_some_iff.1 hk).1
   rw[ii,jU];simp[this]
  have H2:=aa2 r (o+1) (bq l o v) _ H1 lC;simp only[ee,World.setCells];simpa [jU,List.set_set] using H2
theorem Hp.Tq (H:Hp w0 G0 S w G B){k m c q b o:Nat}{e:TypeId}{cells vs:List Value}(hk:nth B k=some (acc e 1 (.slice (some ⟨b,0,none⟩) m c) q cells))(hlen:o+vs.length≤c) :
  Hp w0 G0 S (w.setCells b o vs) G (bq B k<|acc e 1 (.slice (some ⟨b,0,none⟩) m c) q<|ee cells o vs)∧(∀j,j<vs.length→(w.cell? ⟨b,o+j,none⟩).isSome=true)∧(∀j,j<vs.length→w.frozen? ⟨b,o+j,none⟩=false):=by
 obtain⟨h0,h⟩:=(H.own _<|eO hk).1;rcases h with ⟨h,_⟩|⟨b',cap,C,g1,g2,g3,g4,g5,g6⟩
 ·cases h
 simp only[Value.slice.injEq,Option.some.injEq,Addr.mk.injEq]at g1;obtain⟨⟨rfl,_⟩,rfl,rfl⟩:=g1;have iR:k<B.length:=by rw[ii]at hk;exact(List.getElem?_eq_some_iff.1 hk).1
 have H1:Hp w0 G0 S w G (bq B k<|ai b<|cl C.toList e):=H.upd hk rfl rfl rfl (Nat.le_refl _) (fun _ _ _=>rfl) _ (by show w.heap[b]? = _;simpa using g2) (fun c hc=>by simp[ai]at hc;left;simp[gO,hc]) (by simp[ai]);have lC:nth (bq B k<|ai b<|cl C.toList e) k=some (ai b<|cl C.toList e):=by rw[ii,jU];simp[iR]
 have H2:=aa2 vs o C.toList w H1 lC;have jB:nth (bq (bq B k<|ai b<|cl C.toList e) k<|ai b<|cl (ee C.toList o vs) e) k=some (ai b<|cl (ee C.toList o vs) e):=by rw[ii,jU,jU];simp[iR]
 have hb:=(H2.own _<|eO jB).1;refine⟨?_,fun j hj=>?_,fun j hj=>CR H1 lC⟩
 ·have H3:=H2.upd jB rfl rfl rfl (Nat.le_refl _) (fun _ _ _=>rfl) (acc e 1 (.slice (some ⟨b,0,none⟩) m c) m<|ee cells o vs) ⟨by rw[v_];exact h0,.inr ⟨b,c,(ee C.toList o vs).toArray,rfl,hb,g3,g4,by simpa [v_] using g5,by rw[←g6,←Sn]⟩⟩ (fun c hc=>by simp[gO]at hc;left;simp[ai,hc]) (by simp[gO]);simpa [jU,List.set_set] using H3
 ·have ig:o+j<C.size:=by omega
  rw[pN H1 lC (o:=o+j) (v:=C[o+j])<|by simp[ig]];rfl
theorem aa4:∀(vs l:List Value) (o:Nat),l.length≤o→ee l o vs=l
 | [],_,_,_=>rfl
 | v::r,l,o,h=>by
  simp only[ee];rw[jU,List.set_eq_of_length_le h];exact aa4 r l (o+1) (by omega)
theorem JV (k:Nat)(H:Hp w0 G0 S w G B){d:Nat}{t e:TypeId}{i:TypeInfo}{x y:Operand}{b o m c q dl dc sl sc:Nat}{a:Addr}{cells:List Value}(cs:List Value)(hU:P.underlying t=some (.slice e))(hI:∀w,(typeInfo e).run P w= .ok i w)(hs:i.size=1)(hd:Nat.blt d n=true)
  (hx:od L x=some (.slice (some ⟨b,o,none⟩) dl dc)) (hy:od L y=some (.slice (some a) sl sc)) (hk:nth B k=some (acc e 1 (.slice (some ⟨b,0,none⟩) m c) q cells)) (hn:cs.length=Nat.min sl dl)
  (aoG:∀j v,cs[j]? = some v→w.cell? (a.add j)=some v) (h1:∀v ∈ cs,v.oneCell'=true) (hlen:o+cs.length≤c)
  (next:∀w',Hp w0 G0 S w' G (bq B k<|acc e 1 (.slice (some ⟨b,0,none⟩) m c) q<|ee cells o cs)→R P n ops Q rest ((d,.int .i64 cs.length)::L) ds w'):R P n ops Q (⟨some d,.call ⟨.builtin .copy,#[x,y],#[t,t]⟩,ty,ps,af,none⟩::rest) L ds w:=by
 obtain⟨H',g1,g2⟩:=H.Tq hk (vs:=cs) hlen;have hr:=run_copy_cells (P:=P) w t t ty e b o dl dc a sl sc cs hU (by rw[vW hI];simp[hs]) hn aoG g1 g2 h1;exact cP hd (fun f hf=>by simp[execOp,resolve,invoke,builtin,hf.eval hx,hf.eval hy,hr,goInt])<|next _ H'
theorem atv (k:Nat)(H:Hp w0 G0 S w G B){t e:TypeId}{z:Value}{x:Operand}{b o m c q dc:Nat}{cells:List Value}(hU:P.underlying t=some (.slice e))(hz:∀w,(zeroValue e).run P w= .ok z w)(iG:z.cells= #[z])(h1:z.oneCell'=true)
  (hx:od L x=some (.slice (some ⟨b,o,none⟩) 1 dc)) (hk:nth B k=some (acc e 1 (.slice (some ⟨b,0,none⟩) m c) q cells)) (ho:o+1≤c) (hq:cells.length≤o)
  (next:∀w',Hp w0 G0 S w' G B→R P n ops Q rest L ds w'):R P n ops Q (⟨none,.call ⟨.builtin .clear,#[x],#[t]⟩,ty,ps,af,none⟩::rest) L ds w:=by
 obtain⟨H',g1,g2⟩:=H.Tq hk (vs:=[z]) (o:=o) ho;have hr:=Lib.run_clear_slice (P:=P) w t e ty z hU hz iG h1 b o 1 dc (by decide) (by simpa using g1) (by simpa using g2);rw[aa4 _ _ _ hq,show bq B k (acc e 1 (.slice (some ⟨b,0,none⟩) m c) q cells)=B from by obtain⟨B1,B2,h1,h2,_⟩:=pd hk;rw[h2,h1]]at H';intro a ha;refine wpList_plain rfl fun K hK=>?_;have j7:(execOp a.eval ⟨none,.call ⟨.builtin .clear,#[x],#[t]⟩,ty,ps,af,none⟩).run P w= .ok (.value<|.tuple #[]) (w.setCells b o<|List.replicate 1 z):=by simp[execOp,resolve,invoke,builtin,ha.eval hx,hr]
 unfold Oper.wp;rw[j7];exact hK _ _<|next _ H' _ (ha.R8 _)
theorem atn (k:Nat)(H:Hp w0 G0 S w G B){d:Nat}{t tn e:TypeId}{inf:TypeInfo}{bytes:Nat}{z:Value}{x y:Operand}{b i m c q:Nat}{cells:List Value}{p:Int}(r:Nat)(hU:P.underlying t=some (.slice e))(hN:P.underlying tn=some (.int .i64))(hI:∀w,(typeInfo e).run P w= .ok inf w)(hz:inf.zero=some z)(iG:z.cells= #[z])(hs:inf.size=1)(iZ:inf.bytes=bytes)(Dl:Nat.ble bytes 64=true)(hd:Nat.blt d n=true)
  (hx:od L x=some (.slice (some ⟨b,0,none⟩) i c)) (hy:od L y=some (.int .i64 p)) (hp:p=(r:Int)) (hk:nth B k=some (acc e 1 (.slice (some ⟨b,0,none⟩) m c) q cells)) (hi:i≤m) (h0:0<r) (mw:c<i+r) (hsm:i+r≤2199023255552)
  (next:∀nb c' w',Hp w0 G0 S w' G (acc e 1 (.slice (some ⟨nb,0,none⟩) (i+r) c') (i+r) (cells.take i++List.replicate r z)::B)→nb≠b→i+r≤c'→R P n ops Q rest ((d,.slice (some ⟨nb,0,none⟩) (i+r) c')::L) ds w') :
  R P n ops Q (⟨some d,.call ⟨.builtin .append,#[x,y],#[t,tn]⟩,ty,ps,af,none⟩::rest) L ds w:=by
 subst iZ hp;obtain⟨g0,g⟩:=(H.own _<|eO hk).1;rcases g with ⟨g,_⟩|⟨b',cap,C,g1,g2,g3,g4,g5,g6⟩
 ·cases g
 simp only[Value.slice.injEq,Option.some.injEq,Addr.mk.injEq]at g1;obtain⟨⟨rfl,_⟩,rfl,rfl⟩:=g1;simp only[Nat.mul_one]at g0 g5 g6;have hn:¬(r=0):=by omega
 have hw:IntKind.i64.wrap (r:Int)=r:=wrap_i64 ⟨by omega,by omega⟩;have ahO:inf.bytes≤64:=by simpa using Dl
 have rX:(i+r)*inf.bytes≤140737488355328:=by
  calc (i+r)*inf.bytes≤2199023255552*64:=Nat.mul_le_mul hsm ahO
   _≤_:=by decide
 have agy:¬(9223372036854775807<(i:Int)+(r:Int)):=by omega
 have agw:¬(281474976710656<Builtin.nextslicecap (i+r) c*inf.bytes):=by have:=growslice_fits mw rX;omega
 have agx:¬(281474976710656<(r:Int)*(inf.bytes:Int)):=by
  rw[←Int.natCast_mul];have:r*inf.bytes≤(i+r)*inf.bytes:=Nat.mul_le_mul_right _ (by omega);omega
 have akz:¬((r:Int)<0):=by omega
 have Em:¬(i+r≤c):=by omega
 have hold:(Builtin.firstCells 1 i<|.slice (some ⟨b,0,none⟩) i c).run P w.drew= .ok (cells.take i).toArray w.drew:=by
  refine run_firstCells_some w.drew 1 i ⟨b,0,none⟩ i c (cells.take i) (by simp;omega)<|fun j v hj=>?_;rw[Addr.add_lit,Nat.zero_add];rw[List.getElem?_take]at hj;split at hj
  ·exact wM H hk hj
  ·cases hj
 have pn:(Builtin.append_ #[t,tn] ty #[.slice (some ⟨b,0,none⟩) i c,.int .i64 (r:Int)]).run P w= .ok (.slice (some ⟨w.heap.size,0,none⟩) (i+r)<|grownCap w (i+r) c e) (w.drew.alloc<|.cells ((cells.take i).toArray++(Builtin.zeroCells z.cells r++Builtin.zeroCells z.cells (grownCap w (i+r) c e-(i+r)))) e):=by
  simp[Builtin.append_,run_underlying hU,run_underlying hN,Go.sizeOf,typeInfo,zeroValue,vW hI,hz,hs,asInt,asIntOf,hw,hn,akz,agy,agw,agx,Em,Question.forced,hold,newRow,grownCap]
 have c7:=grownCap_ge w (i+r) c e;have nO:grownCap w (i+r) c e≤maxLen:=grownCap_le_maxLen w (i+r) c e (by simp only[maxLen];omega);have E:=Ext.Hx w<|.cells ((cells.take i).toArray++(Builtin.zeroCells z.cells r++Builtin.zeroCells z.cells (grownCap w (i+r) c e-(i+r)))) e;have hzr:(Builtin.zeroCells z.cells r).toList=List.replicate r z:=by
  rw[iG];simp[Builtin.zeroCells];apply List.ext_getElem
  ·simp
  ·intro i h1 h2;simp[Nat.mod_one]
 have ef:b<w.heap.size:=(Array.getElem?_eq_some_iff.1 g2).1;generalize hW:w.drew.alloc _=W at pn E;refine cP hd (w':=W) (fun f hf=>by simp[execOp,resolve,invoke,builtin,hf.eval hx,hf.eval hy,pn])<|next w.heap.size _ _ ?_ (by omega) c7;have H0:=H.dX e 1;have H1:=H0.upd (k:=0) rfl E.os E.tape E.output E.size (fun b hb _=>E.block b hb) (acc e 1 (.slice (some ⟨w.heap.size,0,none⟩) (i+r)<|grownCap w (i+r) c e) (i+r)<|cells.take i++List.replicate r z) ⟨by simp;omega,.inr ⟨w.heap.size,_,((cells.take i).toArray++(Builtin.zeroCells z.cells r++Builtin.zeroCells z.cells (grownCap w (i+r) c e-(i+r)))),rfl,?_,c7,nO,?_,?_⟩⟩ (fun b hb=>by simp[gO]at hb;right;omega) (by simp[gO])
 ·simpa [bq] using H1
 ·rw[←hW];exact sT w.drew _
 ·simp only[Array.size_append,List.size_toArray,Fw.KC,iG];simp;omega
 ·simp only[Array.toList_append,List.append_assoc,hzr];rw[←List.append_assoc];have:(cells.take i++List.replicate r z).length=(i+r)*1:=by simp;omega
  rw[←this];exact List.take_left
theorem Hp.adp (H:Hp w0 G0 S w G B){k n c b:Nat}{e:TypeId}{cells:List Value}(hk:nth B k=some (acc e 1 (.slice (some ⟨b,0,none⟩) n c) n cells))(hc:n+1≤c):∃z,Hp w0 G0 S w G (bq B k<|acc e 1 (.slice (some ⟨b,0,none⟩) (n+1) c) (n+1)<|cells++[z]):=by
 obtain⟨h0,h⟩:=(H.own _<|eO hk).1;rcases h with ⟨h,_⟩|⟨b',cap,C,g1,g2,g3,g4,g5,g6⟩
 ·cases h
 simp only[Value.slice.injEq,Option.some.injEq,Addr.mk.injEq]at g1;obtain⟨⟨rfl,_⟩,_,rfl⟩:=g1;simp only[Nat.mul_one]at h0 g5 g6;have ef:n<C.toList.length:=by simp[g5];omega
 refine⟨C.toList[n],H.upd hk rfl rfl rfl (Nat.le_refl _) (fun _ _ _=>rfl) _ ⟨by simp[h0],.inr ⟨b,c,C,rfl,g2,hc,g4,by simpa using g5,?_⟩⟩ (fun c hc=>by simp[gO]at hc;left;simp[gO,hc])<|by simp[gO]⟩;rw[Nat.mul_one,List.take_succ,g6,List.getElem?_eq_getElem ef];rfl
theorem atM (k k2:Nat)(H:Hp w0 G0 S w G B){d:Nat}{f:FuncId}{t tb e:TypeId}{xs:List Operand}{ts:Array TypeId}{b o m c q lb cb vb lv cv:Nat}{cells:List Value}{v:List Value}{ev:TypeId}(hf:∀args w,(callFunc f args).run P w=((Extern.SlicesOverlaps.overlaps #[t,t] #[tb] args).run P w).andThen fun v w'=> .ok (.value v) w')
  (hU:P.underlying t=some (.slice e)) (hS:∀w,(Go.sizeOf e).run P w= .ok 1 w) (hd:Nat.blt d n=true) (hx:lQ L xs=some [.slice (some ⟨vb,0,none⟩) lv cv,.slice (some ⟨b,o,none⟩) lb cb])
  (hk:nth B k=some (acc e 1 (.slice (some ⟨b,0,none⟩) m c) q cells)) (jB:nth B k2=some (ai vb<|cl v ev)) (de:vb≠b) (hc:0<c) (next:R P n ops Q rest ((d,.bool false)::L) ds w) :
  R P n ops Q (⟨some d,.call ⟨.value<|.func f,xs.toArray,ts⟩,ty,ps,af,none⟩::rest) L ds w:=by
 have fU:=(H.own _<|eO jB).1;obtain⟨g0,g⟩:=(H.own _<|eO hk).1;rcases g with ⟨g,_⟩|⟨b',cap,C,g1,g2,g3,g4,g5,g6⟩
 ·cases g
 simp only[Value.slice.injEq,Option.some.injEq,Addr.mk.injEq]at g1;obtain⟨⟨rfl,_⟩,_,rfl⟩:=g1;have yT:w.heap[vb]? = some (cl v ev):=fU;have g2':w.heap[b]? = some (.cells C e (0,0)):=g2;have hr:=Lib.run_overlaps_apart (P:=P) w t tb e hU 1 hS ⟨vb,0,none⟩ ⟨b,o,none⟩ lv cv lb cb de ev e v.length C.size (by simp[World.shape?,yT]) (by simp[World.shape?,g2']) (by omega) (by simp[World.frozen?,yT]) (by simp[World.frozen?,yT]);refine cP hd (fun a ha=>?_) next
 have e:=ha.uK xs _ hx;simp[execOp,resolve,invoke,Act.eval,Deferred.ofValue,e,hf,hr,Result.andThen]
end ops
section
variable {w0 w:World} {G0 G:PH} {S:List Nat} {B:List aW} {NT PT:TypeId}
theorem JO {F:Fr}(H:Hp w0 G0 S w G (aA F::B)):(dm F).Nodup:=(List.nodup_append.1<|show(dm F++aV B).Nodup from H.nd).1
theorem afW {F F':Fr}(hp:F.Perm F')(hn:(dm F).Nodup)(b:Nat):fh F b=fh F' b:=by
 have key : ∀ {F : Fr} {b : Nat} {o : Obj}, (dm F).Nodup → (fh F b = some o ↔ (b, o) ∈ F) := by
  intro F;induction F with
  | nil=>intro b o _;simp[fh]
  | cons x r ih =>
   obtain⟨c,p⟩:=x;intro b o hn;have qc:c ∉ dm r∧(dm r).Nodup:=by simpa [dm] using hn
   by_cases e:c=b
   ·subst e;simp only[fh,if_true,Option.some.injEq,List.mem_cons,Prod.mk.injEq,true_and];constructor
    ·rintro rfl;exact .inl rfl
    ·rintro(rfl|h)
     ·rfl
     ·exact absurd (List.mem_map_of_mem (f:=Prod.fst) h) qc.1
   ·have e':¬b=c:=fun h=>e h.symm;simp only[fh,e,if_false,List.mem_cons,Prod.mk.injEq,e',false_and,false_or];exact ih qc.2
 have qc:(dm F').Nodup:=(hp.map Prod.fst).nodup_iff.1 hn;cases h:fh F' b with
 | some o=>exact(key hn).2<|hp.mem_iff.2<|(key qc).1 h
 | none =>
  cases h2:fh F b with
  | none=>rfl
  | some o=>rw[(key qc).2<|hp.mem_iff.1<|(key hn).1 h2]at h;cases h
theorem Hp.xU {F F':Fr}(H:Hp w0 G0 S w G (aA F::B))(hp:F.Perm F'):Hp w0 G0 S w G (aA F'::B):=by
 have hn:=JO H;have H':=H.upd (k:=0) rfl rfl rfl rfl (Nat.le_refl _) (fun _ _ _=>rfl) (aA F') (fun b o hb=>(H.own (aA F)<|by simp).1 b o<|by rw[afW hp hn];exact hb) (fun b hb=> .inl<|((hp.map Prod.fst).mem_iff).2 hb)<|(hp.map Prod.fst).nodup_iff.1 hn;simpa [bq] using H'
theorem Hp.J6 {b:Nat}{o:Obj}{F:Fr}(H:Hp w0 G0 S w G (aA ((b,o)::F)::B)):Hp w0 G0 S w G (ai b o::aA F::B):=by
 have H1:=Hp.GI (F:=[(b,o)]) H;have H2:=H1.upd (k:=0) rfl rfl rfl rfl (Nat.le_refl _) (fun _ _ _=>rfl) (ai b o) ((H1.own (aA [(b,o)])<|by simp).1 b o<|by simp[fh]) (fun c hc=>by simp[ai]at hc;left;simp[aA,dm,hc]) (by simp[ai]);simpa [bq] using H2
theorem Hp.tL {b:Nat}{o:Obj}{F:Fr}(H:Hp w0 G0 S w G (ai b o::aA F::B)):Hp w0 G0 S w G (aA ((b,o)::F)::B):=by
 have H2:=H.upd (k:=0) rfl rfl rfl rfl (Nat.le_refl _) (fun _ _ _=>rfl) (aA [(b,o)]) (fun c o' hc=>by
  have hb:=(H.own (ai b o)<|by simp).1;simp only[fh]at hc;split at hc
  ·rename_i e;subst e;cases hc;exact hb
  ·cases hc) (fun c hc=>by simp[aA,dm]at hc;left;simp[ai,hc]) (by simp[aA,dm])
 simp only[bq]at H2;exact Hp.mf (F:=[(b,o)]) H2
abbrev gL (ks:List Nd):List Value:=ks.map<|fun k=>ptr k.b
theorem Hp.aul {ks:List Nd}{kv:Value}{Fk Fs R:Fr}(H:Hp w0 G0 S w G (aA (Fk++R)::B))(h:yf PT ks kv Fk Fs)(hl:ks.length≤1099511627776):Hp w0 G0 S w G (acc PT 1 kv ks.length (gL ks)::aA (Fs++R)::B):=by
 rcases h with ⟨rfl,rfl,rfl⟩|⟨kb,cap,C,rfl,h1,h2,h3,h4,rfl⟩
 ·exact H.dX PT 1
 ·have H1:=Hp.J6 H;have H2:=H1.upd (k:=0) rfl rfl rfl rfl (Nat.le_refl _) (fun _ _ _=>rfl) (acc PT 1 (.slice (some ⟨kb,0,none⟩) ks.length cap) ks.length<|gL ks) ⟨by simp,.inr ⟨kb,cap,C,rfl,(H1.own (ai kb _)<|by simp).1,h1,h2,by simpa using h3,by simpa using h4⟩⟩ (fun c hc=>by simp[gO]at hc;left;simp[ai,hc]) (by simp[gO]);simpa [bq] using H2
theorem Hp.YG {ks:List Nd}{kv:Value}{Fs R:Fr}(H:Hp w0 G0 S w G (acc PT 1 kv ks.length (gL ks)::aA (Fs++R)::B)):∃Fk,Hp w0 G0 S w G (aA (Fk++R)::B)∧yf PT ks kv Fk Fs:=by
 obtain⟨h0,h⟩:=(H.own (acc PT 1 kv ks.length<|gL ks)<|by simp).1;rcases h with ⟨rfl,h⟩|⟨kb,cap,C,rfl,g2,g3,g4,g5,g6⟩
 ·exact⟨Fs,by simpa [ez] using H.del (k:=0) rfl,.inl ⟨rfl,List.eq_nil_of_length_eq_zero h,rfl⟩⟩
 ·simp only[Nat.mul_one]at g5 g6;have H2:=H.upd (k:=0) rfl rfl rfl rfl (Nat.le_refl _) (fun _ _ _=>rfl) (ai kb<|.cells C PT (0,0)) g2 (fun c hc=>by simp[ai]at hc;left;simp[gO,hc]) (by simp[ai]);simp only[bq]at H2;exact⟨(kb,.cells C PT (0,0))::Fs,H2.tL,.inr ⟨kb,cap,C,rfl,g3,g4,g5,g6,rfl⟩⟩
abbrev F9 (d:Nd) (a:Option Addr) (m c:Nat) (kv:Value):List Value:=[str d.name,.bool d.dir,.slice a m c,kv]
theorem Hp.Gk {F:Fr}{t d:Nd}{ns:List Bs}(H:Hp w0 G0 S w G (aA F::B))(h:bP NT PT G t F)(ha:t.at_ ns=some d) :
  ∃a m c kv Fs R,Hp w0 G0 S w G (ai d.b (cl (F9 d a m c kv) NT)::acc PT 1 kv d.kids.length (gL d.kids)::aA (Fs++R)::B)∧dv G (.slice a m c) d.ids∧bL NT PT G d.kids Fs∧d.name.length≤16777216∧d.kids.length≤1099511627776∧(∀b,b ∈ aV [aA F]→b=d.b∨b ∈ (acc PT 1 kv d.kids.length<|gL d.kids).fp∨b ∈ dm (Fs++R)) ∧
   ∀{GP:World} {Cg:PH} {S':List Nat} {w':World} {G':PH} {B':List aW} {ids':List Int} {kids':List Nd} {a':Option Addr} {m' c':Nat} {vZ:Value} {Fs' X:Fr},Hp GP Cg S' w' G' (ai d.b (cl (F9 d a' m' c' vZ) NT)::acc PT 1 vZ kids'.length (gL kids')::aA X::B')→X.Perm (Fs'++R)→an G G'→dv G' (.slice a' m' c') ids'→bL NT PT G' kids' Fs'→kids'.length≤1099511627776 →
    ∃F',Hp GP Cg S' w' G' (aA F'::B')∧bP NT PT G' (t.upd ns<|fun _=> .mk d.b d.name d.dir ids' kids') F'∧(t.upd ns<|fun _=> .mk d.b d.name d.dir ids' kids').b=t.b:=by
 obtain⟨Fd,R,p1,p2,p3⟩:=bP.focus ns h ha;obtain⟨b,nm,dr,ids,ks⟩:=d;simp only[bP]at p2;obtain⟨h1,h0,a,m,c,kv,Fk,Fs,rfl,h3,h4,h5⟩:=p2;have H1:=(H.xU p1).J6;have H2:Hp w0 G0 S w G (aA (Fk++R)::ai b (cl [str nm,.bool dr,.slice a m c,kv] NT)::B):=H1.ub;have H3:=Hp.aul H2 h4 h0;have H4:Hp w0 G0 S w G (ai b (cl [str nm,.bool dr,.slice a m c,kv] NT)::acc PT 1 kv ks.length (gL ks)::aA (Fs++R)::B):=by
  have:=H3.x3 (k:=2) rfl;simpa [ez] using this
 refine⟨a,m,c,kv,Fs,R,H4,h3,h5,h1,h0,?_,?_⟩
 ·intro x hx;have mD:x ∈ dm F:=by simpa [aV,aA] using hx
  have l9:=((p1.map Prod.fst).mem_iff).1 mD;have hx3:x=b∨x ∈ dm Fk∨x ∈ dm R:=by simpa [dm] using l9
  rcases hx3 with h|h|h
  ·exact .inl h
  ·rcases h4 with ⟨rfl,rfl,rfl⟩|⟨kb,cap,C,rfl,_,_,_,_,rfl⟩
   ·exact .inr (.inr<|by rw[pU];exact List.mem_append_left _ h)
   ·have h2:x=kb∨x ∈ dm Fs:=by simpa [dm] using h
    rcases h2 with h2|h2
    ·exact .inr (.inl<|by simp[gO,h2])
    ·exact .inr (.inr<|by rw[pU];exact List.mem_append_left _ h2)
  ·exact .inr (.inr<|by rw[pU];exact List.mem_append_right _ h)
 intro GP Cg S' w' G' B' ids' kids' a' m' c' vZ Fs' X K hX hle hi hk hl;have K1:Hp GP Cg S' w' G' (acc PT 1 vZ kids'.length (gL kids')::aA X::ai b (cl [str nm,.bool dr,.slice a' m' c',vZ] NT)::B'):=by
  have:=(K.x3 (k:=1) rfl).x3 (k:=2) rfl;have h9:=this.x3 (k:=1) rfl;simp only[ez]at h9;exact h9
 have K2:Hp GP Cg S' w' G' (acc PT 1 vZ kids'.length (gL kids')::aA (Fs'++R)::ai b (cl [str nm,.bool dr,.slice a' m' c',vZ] NT)::B'):=by
  have:=(K1.ub).xU hX;exact this.ub
 obtain⟨nI,K3,j4⟩:=K2.YG;have K4:=(K3.ub).tL;obtain⟨F',q1,q2,q3⟩:=p3 G' (.mk b nm dr ids' kids') ((b,cl [str nm,.bool dr,.slice a' m' c',vZ] NT)::nI) hle (by
  simp only[bP];exact⟨h1,hl,a',m',c',vZ,nI,Fs',rfl,hi,j4,hk⟩) rfl
 exact⟨F',K4.xU<|by simpa using q1.symm,q2,q3⟩
theorem bL.app {G:PH}:∀{l m:List Nd} {F:Fr},bL NT PT G (l++m) F↔∃F1 F2,F=F1++F2∧bL NT PT G l F1∧bL NT PT G m F2
 | [],m,F=>by
  simp only[List.nil_append,bL];exact⟨fun h=>⟨[],F,rfl,rfl,h⟩,fun⟨F1,F2,h1,h2,h3⟩=>by subst h2;simpa [h1] using h3⟩
 | k::r,m,F=>by
  simp only[List.cons_append,bL];constructor
  ·rintro⟨F1,F2,rfl,h1,h2⟩;obtain⟨F3,F4,rfl,h3,h4⟩:=bL.app.1 h2;exact⟨F1++F3,F4,by simp,⟨F1,F3,rfl,h1,h3⟩,h4⟩
  ·rintro⟨_,F2,rfl,⟨F1,F3,rfl,h1,h3⟩,h4⟩;exact⟨F1,F3++F2,by simp,h1,bL.app.2 ⟨F3,F2,rfl,h3,h4⟩⟩
theorem bL.ins {G:PH}{l:List Nd}{F Fk:Fr}{k:Nd}(i:Nat)(h:bL NT PT G l F)(hk:bP NT PT G k Fk):∃F',F'.Perm (Fk++F)∧bL NT PT G (l.take i++k::l.drop i) F':=by
 rw[←List.take_append_drop i l]at h;obtain⟨F1,F2,rfl,h1,h2⟩:=bL.app.1 h;refine⟨F1++(Fk++F2),?_,bL.app.2 ⟨F1,Fk++F2,rfl,h1,by simp only[bL];exact⟨Fk,F2,rfl,hk,h2⟩⟩⟩;rw[←List.append_assoc,←List.append_assoc];exact List.Perm.append_right F2 List.perm_append_comm
theorem bL.del {G:PH}{l:List Nd}{F:Fr}{k:Nd}{i:Nat}(h:bL NT PT G l F)(hi:l[i]? = some k):∃Fk F',F.Perm (Fk++F')∧bP NT PT G k Fk∧bL NT PT G (l.take i++l.drop (i+1)) F':=by
 obtain⟨ef,rfl⟩:=List.getElem?_eq_some_iff.1 hi;have e:l=l.take i++(l[i]::l.drop (i+1)):=by rw[←List.drop_eq_getElem_cons ef,List.take_append_drop]
 rw[e]at h;obtain⟨F1,F2,rfl,h1,h2⟩:=bL.app.1 h;simp only[bL]at h2;obtain⟨Fk,F3,rfl,h3,h4⟩:=h2;refine⟨Fk,F1++F3,?_,h3,bL.app.2 ⟨F1,F3,rfl,h1,h4⟩⟩;rw[←List.append_assoc,←List.append_assoc];exact List.Perm.append_right F3 List.perm_append_comm
theorem Hp.auh {l:List Nd}{Fs R:Fr}{k:Nd}{i:Nat}(H:Hp w0 G0 S w G (aA (Fs++R)::B))(h:bL NT PT G l Fs)(hi:l[i]? = some k) :
  ∃a m c a' c' Fk F',Hp w0 G0 S w G (ai k.b (cl (F9 k a m c<|.slice a' k.kids.length c') NT)::aA (Fk++(F'++R))::B)∧dv G (.slice a m c) k.ids∧bP NT PT G k ((k.b,cl (F9 k a m c<|.slice a' k.kids.length c') NT)::Fk)∧bL NT PT G (l.take i++l.drop (i+1)) F'∧Fs.Perm (((k.b,cl (F9 k a m c<|.slice a' k.kids.length c') NT)::Fk)++F'):=by
 obtain⟨Fk,F',p1,p2,p3⟩:=h.del hi;obtain⟨b,nm,dr,ids,ks⟩:=k;have p2':=p2;simp only[bP]at p2;obtain⟨h1,h0,a,m,c,kv,Ta,Fs0,rfl,h3,h4,h5⟩:=p2;obtain⟨a',c',rfl⟩:∃a' c',kv= .slice a' ks.length c':=by
  rcases h4 with ⟨rfl,rfl,_⟩|⟨kb,cap,C,rfl,_⟩
  ·exact⟨none,0,rfl⟩
  ·exact⟨_,_,rfl⟩
 have H1:=H.xU (F':=(b,cl [str nm,.bool dr,.slice a m c,.slice a' ks.length c'] NT)::(Ta++(F'++R))) (by simpa using List.Perm.append_right R p1);exact⟨a,m,c,a',c',Ta,F',H1.J6,h3,p2',p3,p1⟩
theorem bP.new {G:PH}{b:Nat}{nm:Bs}{dr:Bool}{a:Option Addr}{m c:Nat}{ids:List Int}(hn:nm.length≤16777216)(hi:dv G (.slice a m c) ids):bP NT PT G (.mk b nm dr ids []) [(b,cl [str nm,.bool dr,.slice a m c,.slice none 0 0] NT)]:=by
 simp only[bP];exact⟨hn,by simp,a,m,c,_,[],[],rfl,hi,.inl ⟨rfl,rfl,rfl⟩,by simp[bL]⟩
theorem Hp.lj (H:Hp w0 G0 S w G B){ks:List Nat}{k:Nat}{F:Fr}{t:Nd}(hk:nth B k=some (aA F))(hm:ks.contains k=true)(h:bP NT PT G t F):e9 (cW G w<|hP B ks) t:=by
 have hp:=H.jH hk hm;have hn:(dm F).Nodup:=by
  have H1:=H.x3 hk;exact JO H1
 exact bP.rd (cW.le _ _ _) h hp hn
end
theorem Mf:∀(vs l:List Value) (o j:Nat),(ee l o vs)[j]? = if o≤j∧j<o+vs.length∧j<l.length then vs[j-o]? else l[j]?
 | [],l,o,j=>by simp only[ee,List.length_nil,Nat.add_zero];rw[if_neg<|by omega]
 | v::r,l,o,j=>by
  simp only[ee,Mf r,Rb,List.length_cons];rw[jU,List.getElem?_set];by_cases h:o=j
  ·subst h;rw[if_neg<|by omega];by_cases h2:o<l.length
   ·simp[h2]
   ·simp[h2]
  ·by_cases h2:o+1≤j∧j<o+1+r.length∧j<l.length
   ·rw[if_pos h2,if_pos<|by omega];rw[show j-o=(j-(o+1))+1 by omega,List.getElem?_cons_succ]
   ·rw[if_neg h2,if_neg h,if_neg<|by omega]
theorem Vh {c:List Value}{x:Value}{i:Nat}(hi:i≤c.length)(j:Nat):(c.take i++x::c.drop i)[j]? = if j<i then c[j]? else if j=i then some x else c[j-1]? := by
 have hl:(c.take i).length=i:=by simp;omega
 by_cases h:j<i
 ·rw[if_pos h,List.getElem?_append_left<|by omega,List.getElem?_take,if_pos h]
 ·rw[if_neg h,List.getElem?_append_right<|by omega,hl];by_cases h2:j=i
  ·subst h2;simp
  ·rw[if_neg h2,show j-i=(j-i-1)+1 by omega,List.getElem?_cons_succ,List.getElem?_drop];congr 1;omega
theorem aq8 {c:List Value}{x z:Value}{i:Nat}(hi:i≤c.length):ee (ee (c++[z]) (i+1)<|c.drop i) i [x]=c.take i++x::c.drop i:=by
 apply List.ext_getElem?;intro j;rw[Vh hi];simp only[Mf,v_,List.length_append,List.length_cons,List.length_nil,List.length_drop];rcases Nat.lt_trichotomy j i with h|h|h
 ·rw[if_neg<|by omega,if_neg<|by omega,List.getElem?_append_left<|by omega,if_pos h]
 ·subst h;rw[if_pos<|by omega,if_neg<|by omega,if_pos rfl];simp
 ·rw[if_neg<|by omega];by_cases h2:j<c.length+1
  ·rw[if_pos<|by omega,if_neg<|by omega,if_neg<|by omega,List.getElem?_drop];congr 1;omega
  ·rw[if_neg<|by omega,if_neg<|by omega,if_neg<|by omega,List.getElem?_eq_none<|by simp;omega,List.getElem?_eq_none<|by omega]
theorem aq9 {c:List Value}{x z:Value}{i r:Nat}(hi:i≤c.length)(hr:i+r=c.length+1):ee (ee (c.take i++List.replicate r z) i [x]) (i+1) (c.drop i)=c.take i++x::c.drop i:=by
 apply List.ext_getElem?;intro j;have hl:(c.take i).length=i:=by simp;omega
 rw[Vh hi];simp only[Mf,v_,List.length_append,List.length_cons,List.length_nil,List.length_drop,hl,List.length_replicate];rcases Nat.lt_trichotomy j i with h|h|h
 ·rw[if_neg<|by omega,if_neg<|by omega,List.getElem?_append_left<|by omega,if_pos h,List.getElem?_take,if_pos h]
 ·subst h;rw[if_neg<|by omega,if_pos<|by omega,if_neg<|by omega,if_pos rfl];simp
 ·by_cases h2:j<c.length+1
  ·rw[if_pos<|by omega,if_neg<|by omega,if_neg<|by omega,List.getElem?_drop];congr 1;omega
  ·rw[if_neg<|by omega,if_neg<|by omega,if_neg<|by omega,if_neg<|by omega,List.getElem?_eq_none<|by simp;omega,List.getElem?_eq_none<|by omega]
theorem aas (ks:List Nd)(k:Nd)(i:Nat):(gL ks).take i++ptr k.b::(gL ks).drop i=gL (ks.take i++k::ks.drop i):=by simp[gL,List.map_take,List.map_drop]
theorem auF (ks:List Nd)(i:Nat):(gL ks).take i++(gL ks).drop (i+1)=gL (ks.take i++ks.drop (i+1)):=by simp[gL,List.map_take,List.map_drop]
theorem J8 {ks:List Nd}:∀v,v ∈ gL ks→v.oneCell'=true:=by
 intro v hv;obtain⟨k,_,rfl⟩:=List.mem_map.1 hv;rfl
theorem Ho {G:PH}:∀ks:List Nd,ay oZ 1 G (gL ks) ks
 | []=>ay.nil
 | k::r=>(ay.one (E:=oZ) (sz:=1) (G:=G) (x:=k) rfl rfl).app<|Ho r
section ops
variable {P:Program} {n:Nat} {ops:Array Oper} {Q:dp} {rest:List Oper} {L:br} {ds:List Deferred} {w w0:World} {G0:PH} {S:List Nat} {G:PH} {B:List aW}
variable {ty:TypeId} {ps:String} {af:Array Edge}
theorem RU {d:Nat}{t e:TypeId}{x y:Operand}{b m c i:Nat}{p:Int}(hU:P.underlying t=some (.slice e))(hS:∀w,(Go.sizeOf e).run P w= .ok 1 w)(hd:Nat.blt d n=true)(hx:od L x=some (.slice (some ⟨b,0,none⟩) m c))
  (hy:od L y=some (.int .i64 p)) (hp:p=(i:Int)) (hi:i≤m) (hc:i<c) (next:R P n ops Q rest ((d,.slice (some ⟨b,i,none⟩) (m-i)<|c-i)::L) ds w) :
  R P n ops Q (⟨some d,.slice t x (some y) none none,ty,ps,af,none⟩::rest) L ds w:=by
 refine tT (i:=i) hU hS hd hx hy hp hi ?_;rw[if_neg<|by omega];simpa [Addr.add_lit] using next
theorem Ks {d:Nat}{t e:TypeId}{x y:Operand}{b m c i:Nat}{p:Int}(hU:P.underlying t=some (.slice e))(hS:∀w,(Go.sizeOf e).run P w= .ok 1 w)(hx:od L x=some (.slice (some ⟨b,0,none⟩) m c))
  (hy:od L y=some (.int .i64 p)) (hp:p=(i:Int)) (hi:i≤m) (hc:i<c):eK P n L ds w (⟨some d,.slice t x (some y) none none,ty,ps,af,none⟩) (.slice (some ⟨b,i,none⟩) (m-i)<|c-i):=by
 have h:=GM (P:=P) (n:=n) (ds:=ds) (w:=w) (d:=d) (ty:=ty) (ps:=ps) (af:=af) (i:=i) hU hS hx hy hp hi;rw[if_neg<|by omega]at h;simpa [Addr.add_lit] using h
theorem atT {d:Nat}{t e:TypeId}{x y z u:Operand}{a:Option Addr}{m c sz i j k:Nat}{p q r:Int}(hU:P.underlying t=some (.slice e))(hS:∀w,(Go.sizeOf e).run P w= .ok sz w)(hd:Nat.blt d n=true)(hx:od L x=some (.slice a m c))
  (hy:od L y=some (.int .i64 p)) (hz:od L z=some (.int .i64 q)) (hu:od L u=some (.int .i64 r)) (hp:p=(i:Int)) (hq:q=(j:Int)) (hr:r=(k:Int)) (h1:i≤j) (h2:j≤k) (h3:k≤c)
  (next:R P n ops Q rest ((d,.slice (if k=i then a else a.map (·.add (i*sz))) (j-i)<|k-i)::L) ds w):R P n ops Q (⟨some d,.slice t x (some y) (some z)<|some u,ty,ps,af,none⟩::rest) L ds w :=
 cP hd (fun b hb=>by
  subst hp hq hr;simp[execOp,hb.eval hx,hb.eval hy,hb.eval hz,hb.eval hu,Instr.sliceAt,Instr.slice,run_underlying hU,Instr.sliceBounds,Instr.sliceBound,asIntOf,hS,h1,h2,h3]) next
theorem atU {d:Nat}{t e:TypeId}{x y z:Operand}{b m c i j:Nat}{p q:Int}(hU:P.underlying t=some (.slice e))(hS:∀w,(Go.sizeOf e).run P w= .ok 1 w)(hd:Nat.blt d n=true)(hx:od L x=some (.slice (some ⟨b,0,none⟩) m c))
  (hy:od L y=some (.int .i64 p)) (hz:od L z=some (.int .i64 q)) (hp:p=(i:Int)) (hq:q=(j:Int)) (h1:i≤j) (h2:j≤c) (hc:i<c)
  (next:R P n ops Q rest ((d,.slice (some ⟨b,i,none⟩) (j-i)<|c-i)::L) ds w):R P n ops Q (⟨some d,.slice t x (some y) (some z) none,ty,ps,af,none⟩::rest) L ds w:=by
 refine RT (i:=i) (j:=j) hU hS hd hx hy hz hp hq h1 h2 ?_;rw[if_neg<|by omega];simpa [Addr.add_lit] using next
end ops
theorem Hp.accMax {w0 w:World}{G0 G:PH}{S:List Nat}{B:List aW}(H:Hp w0 G0 S w G B){k:Nat}{e:TypeId}{sz n m c:Nat}{a:Option Addr}{cells:List Value}(hk:nth B k=some (acc e sz (.slice a m c) n cells)):c≤9223372036854775807:=by
 obtain⟨_,h⟩:=(H.own _<|eO hk).1;rcases h with ⟨h,_⟩|⟨b,cap,C,g1,_,_,g4,_⟩
 ·cases h;decide
 ·simp only[Value.slice.injEq]at g1;obtain⟨_,_,rfl⟩:=g1;simp only[maxLen]at g4;omega
end Fw
namespace Fw.Nd
open Sp
mutual
def f_:Nd→Nd| .mk _ n d i ks=> .mk 0 n d i<|ua ks
def ua:List Nd→List Nd|[]=>[]|k::r=>f_ k::ua r
end
theorem SB:∀l:List Nd,ua l=l.map f_
 | []=>rfl
 | k::r=>by simp[ua,SB r]
theorem Sy (t:Nd):t.f_.name=t.name:=by cases t;rfl
theorem Sw (t:Nd):t.f_.dir=t.dir:=by cases t;rfl
theorem avO (t:Nd):t.f_.ids=t.ids:=by cases t;rfl
mutual
theorem Sx (s:Bs):∀t:Nd,t.f_.flat s=t.flat s
 | .mk _ n d i ks=>by simp only[f_,flat];exact abm s ks
theorem abm (s:Bs):∀l:List Nd,io s (ua l)=io s l
 | []=>rfl
 | k::r=>by simp only[ua,io,Sy,Sw,avO,Sx _ k,abm s r]
end
theorem avR {l:List Nd}:(ua l).Pairwise (fun a b=>lt a.name b.name=true)↔l.Pairwise (fun a b=>lt a.name b.name=true):=by
 rw[SB,List.pairwise_map];simp only[Sy]
mutual
theorem SA:∀t:Nd,t.f_.wf↔t.wf
 | .mk _ n d i ks=>by simp only[f_,wf,avR,abn ks]
theorem abn:∀l:List Nd,x6 (ua l)↔x6 l
 | []=>by simp[ua]
 | k::r=>by simp only[ua,x6,Sy,SA k,abn r]
end
theorem ci.f_ {T t:Nd}{L:List aj}(h:ci t L)(e:T.f_=t.f_):ci T L :=
 ⟨by rw[←SA,e,SA];exact h.wf,by rw[←Sw,e,Sw];exact h.dir,by rw[←Sx,e,Sx];exact h.flat,h.vt⟩
theorem avQ {b:Nat}{t:Nd}{ks:List Nd}(h:ks.map Nd.f_=t.kids.map Nd.f_):(Nd.mk b t.name t.dir t.ids ks).f_=t.f_:=by
 obtain⟨b0,n,d,i,ks0⟩:=t;simp only[Nd.f_,SB];rw[h];rfl
theorem Sz {l m:List Nd}{k:Nat}{z T:Nd}(hz:l[k]? = some z)(h:m.map f_=(l.take k).map f_)(hT:T.f_=z.f_):(m++[T]).map f_=(l.take<|k+1).map f_:=by
 rw[List.take_succ,hz];simp[h,hT]
theorem avP {l m:List Nd}(h:m.map f_=l.map f_):m.length=l.length:=by have:=congrArg List.length h;simpa using this
end Fw.Nd
namespace Sp
open Fw
def nM (l:List Nd)(id:Int):Nat:=(l.map<|fun t=>qk (t.flat []) id).sum
theorem aeO {l:List Nd}{id:Int}{k:Nat}{z:Nd}(h:l[k]? = some z):nM (l.take<|k+1) id=nM (l.take k) id+pb (z.flat []) id (z.flat []).length:=by
 simp[nM,gZ h,qk]
theorem sx {l:List ao}{ids:List Int}(h:dh l ids=true):ids.length≤4:=by
 simp only[dh,Bool.and_eq_true,decide_eq_true_eq]at h;exact h.2
theorem LV {α:Type}{p:α→Bool}:∀{l:List α} {k:Nat} {z:α},(∀(j:Nat) (x:α),j<k→l[j]? = some x→p x=false)→l[k]? = some z→p z=true→l.findIdx? p=some k
 | [],k,z,_,h,_=>by simp at h
 | q::r,0,z,_,h,hp=>by simp at h;subst h;simp[List.findIdx?_cons,hp]
 | q::r,k+1,z,h1,h,hp=>by
  have hq:=h1 0 q (by omega) rfl;have ih:=LV (l:=r) (k:=k) (fun j x hj hx=>h1 (j+1) x (by omega)<|by simpa using hx) (by simpa using h) hp;simp[List.findIdx?_cons,hq,ih]
theorem afX {α:Type}{p:α→Bool}{l:List α}(h:∀(j:Nat) (x:α),j<l.length→l[j]? = some x→p x=false):l.findIdx? p=none:=by
 rw[List.findIdx?_eq_none_iff];intro x hx;obtain⟨j,hj⟩:=List.getElem?_of_mem hx;exact h j x (List.getElem?_eq_some_iff.1 hj).1 hj
end Sp
namespace Sp
theorem afY {α:Type}{p:α→Bool}{l:List α}{k:Nat}{z:α}(h:∀(j:Nat) (x:α),j<k→l[j]? = some x→p x=false)(hz:l[k]? = some z)(hp:p z=false):∀(j:Nat) (x:α),j<k+1→l[j]? = some x→p x=false:=by
 intro j x hj hx;rcases Nat.lt_or_ge j k with h1|h1
 ·exact h j x h1 hx
 ·obtain rfl:j=k:=by omega
  rw[hx]at hz;cases hz;exact hp
end Sp
namespace Fw
open Go
theorem eY.J1 {α:Type}{E:Fr→α→List Value→Prop}{sz:Nat}{c:List Value}{xs:List α}{F:Fr}(h:eY E sz c xs F)(hE:∀F x cs,E F x cs→∀u ∈ cs,u.oneCell'=true):∀u ∈ c,u.oneCell'=true:=by
 obtain⟨bu,Fs,rfl,rfl,h3,h4,h5⟩:=h;intro u hu;obtain⟨cs,r3,hu⟩:=List.mem_flatten.1 hu;obtain⟨j,hj⟩:=List.getElem?_of_mem r3;have ig:=(List.getElem?_eq_some_iff.1 hj).1;obtain⟨eR,Fi,e1,e2,e3,e4⟩:=h5 j xs[j] (by simp);rw[hj]at e1;cases e1;exact hE _ _ _ e4 u hu
section ops
variable {P:Program} {n:Nat} {ops:Array Oper} {Q:dp} {rest:List Oper} {L:br} {ds:List Deferred} {w w0:World} {G0:PH} {S:List Nat} {G:PH} {B:List aW}
variable {ty:TypeId} {ps:String} {af:Array Edge}
theorem atm {α:Type}{E:Fr→α→List Value→Prop}(k:Nat){F:Fr}(H:Hp w0 G0 S w G (aA F::B)){d:Nat}{t e e2:TypeId}{i:TypeInfo}{sz bytes:Nat}{x y:Operand}{v:Value}{k0:Nat}{xs:List Value}{a:Option Addr}{m c:Nat}{zs:List α}
  (ho:cz E sz e2 F (.slice a m c) zs) (hE:∀F x cs,E F x cs→∀u ∈ cs,u.oneCell'=true)
  (hU:P.underlying t=some (.slice e)) (hI:∀w,(typeInfo e).run P w= .ok i w) (hz:∃z,i.zero=some z∧(vc z).length=sz) (hs:i.size=sz) (iZ:i.bytes=bytes) (eF:Nat.blt 0 sz=true) (hd:Nat.blt d n=true)
  (hx:od L x=some v) (hy:od L y=some (.slice a m c)) (hk:nth B k=some (acc e sz v k0 xs)) (hb:k0+m≤2199023255552) (fU:Nat.ble bytes 64=true)
  (next:∀v' w' cells F',Hp w0 G0 S w' G (aA F'::bq B k (acc e sz v' (k0+m)<|xs++cells))→eY E sz cells zs F'→m=zs.length→R P n ops Q rest ((d,v')::L) ds w') :
  R P n ops Q (⟨some d,.call ⟨.builtin .append,#[x,y],#[t,t]⟩,ty,ps,af,none⟩::rest) L ds w:=by
 obtain⟨h0,h|⟨b,cap,C,cells,F',h1,h2,h3,rfl,h5,h6,h7⟩⟩:=ho
 ·obtain⟨h1,rfl,rfl⟩:=h;simp only[Value.slice.injEq]at h1;obtain⟨rfl,rfl,rfl⟩:=h1;refine tS (α:=Int) (lim:=iN) (E:=fun _ _ _=>False) (k+1) H (zs:=[]) (aU.nil _ _ _) (by simp) hU hI hz hs iZ eF hd hx hy (by simpa [nth] using hk) hb fU ?_;intro v' w' bu kZ _ H';have:bu=[]:=List.eq_nil_of_length_eq_zero (by simpa using kZ);subst this;exact next v' w' [] [] (by simpa [bq] using H') eY.nil rfl
 ·simp only[Value.slice.injEq]at h1;obtain⟨rfl,rfl,rfl⟩:=h1;have hw:w.heap[b]? = some (.cells C e2 (0,0)):=(H.own (aA<|(b,.cells C e2 (0,0))::F')<|List.mem_cons_self ..).1 b _ (by simp[fh]);refine JR (k+1) H (b:=b) (o:=0) (m:=zs.length) (c:=c) (news:=cells) hU hI hz hs iZ eF hd hx hy (by simpa [nth] using hk) h7.length (fun j u hu=>?_) (h7.J1 hE) hb (by simpa using fU) ?_
  ·rw[←h6,List.getElem?_take]at hu;split at hu
   ·simp only[World.cell?,Nat.zero_add,hw];simpa using hu
   ·cases hu
  ·intro v' w' H';simp only[bq]at H';have H2:=H'.J6;exact next v' w' cells F' (by simpa [ez] using H2.del (k:=0) rfl) h7 rfl
end ops
section
variable (NT PT:TypeId)
mutual
def rB:Nd→Fr→Prop
 | .mk b nm d ids ks=>fun F=>nm.length≤16777216∧ks.length≤1099511627776∧∃a m c kv Fi Fk Fs,F=Fi++(b,cl [str nm,.bool d,.slice a m c,kv] NT)::Fk∧OI Fi (.slice a m c) ids∧yf PT ks kv Fk Fs∧lU ks Fs
def lU:List Nd→Fr→Prop
 | []=>fun F=>F=[]
 | k::r=>fun F=>∃F1 F2,F=F1++F2∧rB k F1∧lU r F2
end
end
section
variable {NT PT:TypeId}
theorem lU.snoc {k:Nd}{Fk:Fr}:∀{l:List Nd} {F:Fr},lU NT PT l F→rB NT PT k Fk→lU NT PT (l++[k]) (F++Fk)
 | [],F,h,hk=>by simp only[lU]at h;subst h;simp only[List.nil_append,lU];exact⟨Fk,[],by simp,hk,rfl⟩
 | q::r,F,h,hk=>by
  simp only[lU]at h;obtain⟨F1,F2,rfl,h1,h2⟩:=h;simp only[List.cons_append,lU];exact⟨F1,F2++Fk,by simp,h1,lU.snoc h2 hk⟩
mutual
theorem rB.GD:∀{t:Nd} {F:Fr},rB NT PT t F→(dm F).Nodup→∃Fi F',F.Perm (Fi++F')∧∀G,an (fh Fi) G→bP NT PT G t F'
 | .mk b nm d ids ks,F,h,hn=>by
  simp only[rB]at h;obtain⟨h1,h0,a,m,c,kv,Fi,Fk,Fs,rfl,h2,h3,h4⟩:=h;rw[pU]at hn;obtain⟨n1,n2,n3⟩:=List.nodup_append.1 hn;have ZI:b ∉ dm Fk∧(dm Fk).Nodup:=by simpa [dm] using n2
  have hns:(dm Fs).Nodup:=by
   rcases h3 with ⟨_,_,rfl⟩|⟨kb,cap,C,_,_,_,_,_,rfl⟩
   ·exact ZI.2
   ·exact(by simpa [dm] using ZI.2:kb ∉ dm Fs∧(dm Fs).Nodup).2
  obtain⟨qC,Fs',p1,p2⟩:=lU.GD h4 hns;obtain⟨nI,j4,hp⟩:∃nI,yf PT ks kv nI Fs'∧Fk.Perm (qC++nI):=by
   rcases h3 with ⟨rfl,rfl,rfl⟩|⟨kb,cap,C,rfl,g1,g2,g3,g4,rfl⟩
   ·exact⟨Fs',.inl ⟨rfl,rfl,rfl⟩,p1⟩
   ·exact⟨(kb,.cells C PT (0,0))::Fs',.inr ⟨kb,cap,C,rfl,g1,g2,g3,g4,rfl⟩,(List.Perm.cons _ p1).trans List.perm_middle.symm⟩
  refine⟨Fi++qC,(b,cl [str nm,.bool d,.slice a m c,kv] NT)::nI,?_,fun G hG=>?_⟩
  ·rw[List.append_assoc];refine List.Perm.append_left Fi ?_;exact(List.Perm.cons _ hp).trans List.perm_middle.symm
  ·simp only[bP]
   have qa:∀x,x ∈ dm Fi→x ∉ dm qC:=fun x hx l9=>by
    have:x ∈ dm Fk:=((hp.map Prod.fst).mem_iff).2 (by simpa [dm] using .inl<|by simpa [dm] using l9);exact n3 x hx x (by simp[dm];right;simpa [dm] using this) rfl
   refine⟨h1,h0,a,m,c,kv,nI,Fs',rfl,?_,j4,p2 G<|(CN qa).trans hG⟩;exact h2.rd ((CM _ _).trans hG) n1
theorem lU.GD:∀{l:List Nd} {F:Fr},lU NT PT l F→(dm F).Nodup→∃Fi F',F.Perm (Fi++F')∧∀G,an (fh Fi) G→bL NT PT G l F'
 | [],F,h,_=>by simp only[lU]at h;subst h;exact⟨[],[],.refl _,fun G _=>by simp[bL]⟩
 | k::r,F,h,hn=>by
  simp only[lU]at h;obtain⟨F1,F2,rfl,h1,h2⟩:=h;rw[pU]at hn;obtain⟨n1,n2,n3⟩:=List.nodup_append.1 hn;obtain⟨Cf,S5,p1,q1⟩:=rB.GD h1 n1;obtain⟨qC,KI,p2,q2⟩:=lU.GD h2 n2;refine⟨Cf++qC,S5++KI,?_,fun G hG=>?_⟩
  ·refine(p1.append p2).trans ?_;rw[List.append_assoc,List.append_assoc];refine List.Perm.append_left Cf ?_;rw[←List.append_assoc,←List.append_assoc];exact List.Perm.append_right KI List.perm_append_comm
  ·simp only[bL]
   have qa:∀x,x ∈ dm Cf→x ∉ dm qC:=fun x hx l9=>by
    have e1:x ∈ dm F1:=((p1.map Prod.fst).mem_iff).2 (by simpa [dm] using .inl<|by simpa [dm] using hx);have e2:x ∈ dm F2:=((p2.map Prod.fst).mem_iff).2 (by simpa [dm] using .inl<|by simpa [dm] using l9);exact n3 x e1 x e2 rfl
   exact⟨S5,KI,rfl,q1 G<|(CM _ _).trans hG,q2 G<|(CN qa).trans hG⟩
end
end
theorem eJ.mk {e:TypeId}{F:Fr}{v:Value}{xs:List aj}(h:cz zO 3 e F v xs):eJ F v xs:=⟨e,h⟩
section
variable {NT PT:TypeId} {w0 w:World} {G0 G:PH} {S:List Nat} {B:List aW}
theorem Hp.as1 {b:Nat}{nm:Bs}{d:Bool}{ids:List Int}{a:Option Addr}{m c:Nat}{kv:Value}{Fi FK:Fr}{ks:List Nd}(H:Hp w0 G0 S w G (acc PT 1 kv ks.length (gL ks)::aA FK::ai b (cl [str nm,.bool d,.slice a m c,kv] NT)::aA Fi::B))(hn:nm.length≤16777216)(hl:ks.length≤1099511627776)(hi:OI Fi (.slice a m c) ids)(hk:lU NT PT ks FK) :
  ∃F,Hp w0 G0 S w G (aA F::B)∧rB NT PT (.mk b nm d ids ks) F:=by
 have H1:Hp w0 G0 S w G (acc PT 1 kv ks.length (gL ks)::aA (FK++[])::ai b (cl [str nm,.bool d,.slice a m c,kv] NT)::aA Fi::B):=by rw[List.append_nil];exact H
 obtain⟨Fk,H2,jB⟩:=H1.YG;have H3:=(H2.ub).tL;have H4:=(H3.ub).mf;refine⟨_,H4,?_⟩;simp only[rB];exact⟨hn,hl,a,m,c,kv,Fi,Fk,FK,by simp,hi,jB,hk⟩
theorem Hp.Kj {F:Fr}{t:Nd}(H:Hp w0 G0 S w G (aA F::B))(h:rB NT PT t F)(hS:∀b,b ∈ dm F→b ∉ S):∃G' F',Hp w0 G0 S w G' (aA F'::B)∧an G G'∧bP NT PT G' t F':=by
 obtain⟨Fi,F',p,q⟩:=h.GD<|JO H;have H1:=(H.xU p).GI;obtain⟨G',H2,h1,h2⟩:=Hp.j_ H1 (k:=0) rfl (fun b hb=>hS b<|((p.map Prod.fst).mem_iff).2<|by simpa [dm] using .inl<|by simpa [dm] using hb);exact⟨G',F',by simpa [ez] using H2,h1,q G' h2⟩
end
theorem ay.kd {G:PH}{c:List Value}{ks:List Nd}(h:ay oZ 1 G c ks):c=gL ks:=by
 obtain⟨bu,rfl,h2,h3⟩:=h
 have:bu=ks.map (fun k=>[ptr k.b]):=by
  apply List.ext_getElem?;intro i;rw[List.getElem?_map];cases hk:ks[i]? with
  | none =>
   rw[List.getElem?_eq_none_iff]at hk;simp only[Option.map_none];exact List.getElem?_eq_none (by omega)
  | some k =>
   obtain⟨cs,e1,e2,e3⟩:=h3 i k hk;rw[e1,e3];rfl
 rw[this];clear this h2 h3;induction ks with
 | nil=>rfl
 | cons k r ih=>simp[gL]at ih ⊢;exact ih
theorem sV {P:Program}{f:FuncId}{fn:Func}{c:Code}{l:List Value}{w:World}{R:Ending→World→Prop}{n:Nat}
  (hf:P.funcs[f]? = some fn) (hb:fn.body=some c) (hn:fn.ntmps=n) (hl:Nat.ble l.length n=true)
  (h:W P n (bodyPostD P fn R) c (BJ 0 l) [] w):Calls P f l.toArray w R:=by
 refine calls_of_wp_defers hf hb<|h _ ⟨?_,?_,rfl⟩
 ·have:l.length≤n:=by simpa using hl
  simp[hn];omega
 ·intro t v hv;obtain⟨_,h2⟩:=Rh l 0 t v hv;have ef:t<l.length:=by
   have:=List.getElem?_eq_some_iff.1 h2;obtain⟨h,_⟩:=this;simpa using h
  simp only[Nat.sub_zero]at h2;rw[Array.getElem?_append_left<|by simpa using ef];simpa using h2
section
variable {P:Program} {n:Nat} {ops:Array Oper} {Q:dp} {rest:List Oper} {L:br} {ds:List Deferred} {w w0:World} {G0:PH} {S:List Nat} {G:PH} {B:List aW}
variable {ty:TypeId} {ps:String} {af:Array Edge}
theorem wg {f:FuncId}{xs:List Operand}{ts:Array TypeId}{vs:List Value}(hx:lQ L xs=some vs)
  (next:R P n ops Q rest L ({target:= .fn (.func f) #[],args:=vs.toArray}::ds) w):R P n ops Q (⟨none,.defer ⟨.value<|.func f,xs.toArray,ts⟩,ty,ps,af,none⟩::rest) L ds w:=by
 intro a ha;refine wpList_plain rfl fun K hK=>?_;have e:xs.map a.eval=vs:=ha.uK xs vs hx;have hr:(execOp a.eval ⟨none,.defer ⟨.value<|.func f,xs.toArray,ts⟩,ty,ps,af,none⟩).run P w= .ok (.defer {target:= .fn (.func f) #[],args:=vs.toArray}) w:=by
  simp[execOp,resolve,Act.eval,Deferred.ofValue,e]
 unfold Oper.wp;rw[hr,Oper.upon_defer];exact hK _ _<|next _ ⟨ha.size,ha.get,by simp[Act.put,ha.defers]⟩
variable {fn:Func} {C:Ending→World→Prop}
theorem ij (k:Nat)(H:Hp w0 G0 S w G B){LL:Go.Conc.Locks.MuLink}(M:Go.Conc.Locks.MuLib P LL){b o:Nat}{l:List Value}{e:TypeId}{f:FuncId}{rs:List ResultVar}(hf:f=LL.unlock)(mZ:∀args w,(callFunc f args).run P w= .ok (.enter f args) w)
  (hk:nth B k=some (ai b<|cl l e)) (hl:nth l o=some (.int .i32 1)) (hr:fn.results=rs.toArray)
  (next:∀w',Hp w0 G0 S w' G (bq B k<|ai b<|cl (bq l o<|.int .i32 0) e)→∃vs,RV P w' L rs vs∧C (.returned<|ud vs) w') :
  N n (bodyPostD P fn C) .ret L [{target:= .fn (.func f) #[],args:=[.pointer<|some ⟨b,o,none⟩].toArray}] w:=by
 subst hf;intro a ha;show Leaves P fn a.tmps C a.defers .returning w;rw[ha.defers];have hc:w.cell? ⟨b,o,none⟩=some (.int .i32 1):=pN H hk (by rw[ii]at hl;simpa using hl);refine leaves_cons (f:=LL.unlock) (args:= #[.pointer<|some ⟨b,o,none⟩]) (by simp) (by simp[invoke,mZ]) ?_;refine(Go.MuLone.unlock_deferred M ⟨b,o,none⟩ .returning w hc<|CR H hk).mono ?_;rintro e u' w' ⟨rfl,rfl,rfl⟩;obtain⟨vs,h1,h2⟩:=next _ (Ae H hk (o:=o)<|.int .i32 0)
 exact⟨_,Kg hr ⟨ha.size,ha.get,rfl⟩ h1,h2⟩
theorem wh (k:Nat)(H:Hp w0 G0 S w G B){LL:Go.Conc.Locks.MuLink}(M:Go.Conc.Locks.MuLib P LL){d b o:Nat}{l:List Value}{e:TypeId}{f:FuncId}{xs:List Operand}{ts:Array TypeId}(hf:f=LL.lock)(mZ:∀args w,(callFunc f args).run P w= .ok (.enter f args) w)(hd:Nat.blt d n=true)
  (hx:lQ L xs=some [.pointer<|some ⟨b,o,none⟩]) (hk:nth B k=some (ai b<|cl l e)) (hl:nth l o=some (.int .i32 0))
  (next:∀w',Hp w0 G0 S w' G (bq B k<|ai b<|cl (bq l o<|.int .i32 1) e)→R P n ops Q rest ((d,.tuple #[])::L) ds w') :
  R P n ops Q (⟨some d,.call ⟨.value<|.func f,xs.toArray,ts⟩,ty,ps,af,none⟩::rest) L ds w:=by
 subst hf;have hc:w.cell? ⟨b,o,none⟩=some (.int .i32 0):=pN H hk (by rw[ii]at hl;simpa using hl);refine o6 mZ hd hx (Go.MuLone.lock_free M ⟨b,o,none⟩ w hc<|CR H hk) ?_;rintro _ w' ⟨rfl,rfl⟩;exact⟨_,rfl,next _ (Ae H hk (o:=o)<|.int .i32 1)⟩
end
def fJ:PH→(Bs×Nd)→List Value→Prop:=fun _ x cs=>cs=[str x.1,ptr x.2.b]∧x.1.length≤16777216
instance:ik fJ:=⟨fun _ h=>h⟩
theorem qs {G:PH}{b:Nat}{l:List Value}{e:TypeId}(h:(ai b<|cl l e).pred G):fw G b 0 l:=fun j v hv=>⟨l.toArray,e,(0,0),h,by rw[Nat.zero_add];simpa using hv⟩
abbrev e_ (xs:List (Bs×Nd)) (L:List cG):Prop:=fC (fun x s=>x.1=s.name∧Nd.ci x.2 s.tree∧Sp.cU s.tree=true) xs L
theorem fC.len {α β:Type}{R:α→β→Prop}{l:List α}{m:List β}(h:fC R l m):l.length=m.length:=by
 induction h with
 | nil=>rfl
 | cons _ _ ih=>simp[ih]
theorem fC.snoc {α β:Type}{R:α→β→Prop}{l:List α}{m:List β}{x:α}{y:β}(h:fC R l m)(hx:R x y):fC R (l++[x]) (m++[y]):=by
 induction h with
 | nil=>exact .cons hx .nil
 | cons h _ ih=>exact .cons h ih
theorem fC.at {α β:Type}{R:α→β→Prop}{l:List α}{m:List β}(h:fC R l m):∀{i:Nat} {x:α},l[i]? = some x→∃y,m[i]? = some y∧R x y:=by
 induction h with
 | nil=>intro i x hx;simp at hx
 | cons h _ ih =>
  intro i x hx;cases i with
  | zero=>simp at hx;subst hx;exact⟨_,rfl,h⟩
  | succ i=>exact ih (by simpa using hx)
section
variable {P:Program} {n:Nat} {ops:Array Oper} {Q:dp} {rest:List Oper} {L:br} {ds:List Deferred} {w:World}
variable {ty:TypeId} {ps:String} {af:Array Edge}
theorem Gd {d:Nat}{f:FuncId}{x:Operand}{v:Value}(hd:Nat.blt d n=true)(hx:od L x=some v)
  (next:R P n ops Q rest ((d,.func (.func f) #[] #[v])::L) ds w):R P n ops Q (⟨some d,.makeFunc (.func f) #[] #[x],ty,ps,af,none⟩::rest) L ds w :=
 cP hd (fun a ha=>by simp[execOp,Instr.makeFunc,ha.eval hx]) next
theorem JT {d:Nat}{f:FuncId}{c:Operand}{xs:List Operand}{ts:Array TypeId}{vs:List Value}{cv:Value}{C:Ending→World→Prop}(hf:∀args w,(callFunc f args).run P w= .ok (.enter f args) w)(hd:Nat.blt d n=true)
  (yU:od L c=some (.func (.func f) #[] #[cv])) (hx:lQ L xs=some vs) (hc:Calls P f (vs++[cv]).toArray w C) (next:∀e w',C e w'→∃v,e= .returned v∧R P n ops Q rest ((d,v)::L) ds w') :
  R P n ops Q (⟨some d,.call ⟨.value c,xs.toArray,ts⟩,ty,ps,af,none⟩::rest) L ds w:=by
 intro a ha;refine wpList_plain rfl fun K hK=>?_;have e:xs.map a.eval=vs:=ha.uK xs vs hx;have hr:(execOp a.eval ⟨some d,.call ⟨.value c,xs.toArray,ts⟩,ty,ps,af,none⟩).run P w= .ok (.enter f (vs++[cv]).toArray) w:=by
  simp[execOp,resolve,invoke,ha.eval yU,Deferred.ofValue,e,hf]
 unfold Oper.wp;rw[hr,Oper.upon_enter];refine hc.mono fun e w' hC=>?_;obtain⟨v,rfl,h⟩:=next e w' hC
 exact hK _ _<|h _<|ha.put hd v
end
section
variable {NT PT:TypeId} {w0 w:World} {G0 G:PH} {S:List Nat} {B:List aW}
theorem bL.snoc {k:Nd}{Fk:Fr}{l:List Nd}{F:Fr}(h:bL NT PT G l F)(hk:bP NT PT G k Fk):bL NT PT G (l++[k]) (F++Fk) :=
 bL.app.2 ⟨F,Fk,rfl,h,by simp only[bL];exact⟨Fk,[],by simp,hk,rfl⟩⟩
theorem Hp.zV (H:Hp w0 G0 S w G B){ks:List Nat}{k:Nat}{F:Fr}{l:List Nd}(hk:nth B k=some (aA F))(hm:ks.contains k=true)(h:bL NT PT G l F):∀t,t ∈ l→e9 (cW G w<|hP B ks) t :=
 Ar.1 (bL.rd (cW.le _ _ _) h (H.jH hk hm)<|JO<|H.x3 hk)
end
end Fw
namespace Sp
open Fw
def Kr (s:List ao)(ts:List Nd):Bool:=ts.all (fun t=>(t.flat []).all<|fun x=>dh s x.ids)&&s.all (fun h=>decide ((nM ts h.id:Int)=h.bh))
theorem cX {d:aK}:aS d=true↔fg d.store=true∧cU d.tree=true∧d.aw.length≤6∧(∀(k:Nat) (s:cG),d.aw[k]? = some s→ep s.name=true∧(k:Int)≤jx d.aw s.name∧cU s.tree=true) ∧
  (rh d.store d.tree=true∧∀(k:Nat) (s:cG),d.aw[k]? = some s→rh d.store s.tree=true)∧d.store.all (x4 d)=true:=by
 simp only[aS,sB,Bool.and_eq_true,decide_eq_true_eq];constructor
 ·rintro⟨h1,⟨⟨h2,h3⟩,h4⟩,h5,h6⟩;have key:∀(k:Nat) (s:cG),d.aw[k]? = some s→Gh d k=true:=fun k s hk=>List.all_eq_true.1 h5 k (by simpa using (List.getElem?_eq_some_iff.1 hk).1);refine⟨h2,h3,h6,fun k s hk=>?_,⟨h4,fun k s hk=>?_⟩,h1⟩
  ·have:=key k s hk;rw[wj hk]at this;simp only[Bool.and_eq_true,decide_eq_true_eq]at this;exact⟨this.1.1.1,this.1.1.2,this.1.2⟩
  ·have:=key k s hk;rw[wj hk]at this;simp only[Bool.and_eq_true]at this;exact this.2
 ·rintro⟨h2,h3,h6,h7,⟨h4,h8⟩,h1⟩;refine⟨h1,⟨⟨h2,h3⟩,h4⟩,?_,h6⟩;rw[List.all_eq_true];intro k hk;have j4:k<d.aw.length:=by simpa using hk
  rw[wj<|List.getElem?_eq_getElem j4];obtain⟨g1,g2,g3⟩:=h7 k _<|List.getElem?_eq_getElem j4;simp only[Bool.and_eq_true,decide_eq_true_eq];exact⟨⟨⟨g1,g2⟩,g3⟩,h8 k _<|List.getElem?_eq_getElem j4⟩
theorem aeN {xs:List (Bs×Nd)}{L:List cG}(h:e_ xs L)(id:Int):nM (xs.map (·.2)) id=rG L id L.length:=by
 induction h with
 | nil=>rfl
 | cons h t ih =>
  obtain⟨h1,h2,h3⟩:=h;simp only[nM,rG,List.map_cons,List.sum_cons,List.take_length]at ih ⊢;rw[h2.flat];omega
theorem UI {d:aK}{T:Nd}{xs:List (Bs×Nd)}(hS:fg d.store=true)(hT:Nd.ci T d.tree)(hl:d.aw.length≤6)(hx:e_ xs d.aw)(hw:∀(k:Nat) (s:cG),d.aw[k]? = some s→ep s.name=true∧(k:Int)≤jx d.aw s.name) :
  aS d=Kr d.store (T::xs.map (·.2)):=by
 rw[Bool.eq_iff_iff,cX]
 have hc:∀id,nM (T::xs.map (·.2)) id=FV d id:=fun id=>by
  have:=aeN hx id;simp only[nM,List.map_cons,List.sum_cons,hT.flat]at this ⊢;rw[this];rfl
 have hf:(T::xs.map (·.2)).all (fun t=>(t.flat []).all<|fun x=>dh d.store x.ids)=true↔rh d.store d.tree=true∧∀(k:Nat) (s:cG),d.aw[k]? = some s→rh d.store s.tree=true:=by
  simp only[List.all_cons,Bool.and_eq_true,hT.flat];refine and_congr Iff.rfl ?_;rw[List.all_eq_true];constructor
  ·intro h k s hk;obtain⟨x,mD,l9⟩:=LU hx<|List.mem_of_getElem? hk;have:=h x.2<|List.mem_map_of_mem mD;rw[l9.2.1.flat]at this;exact this
  ·intro h t ht;obtain⟨x,mD,rfl⟩:=List.mem_map.1 ht;obtain⟨s,lc,nu⟩:=LS hx mD;obtain⟨k,hk⟩:=List.getElem?_of_mem lc;rw[nu.2.1.flat];exact h k s hk
 have hu:d.store.all (fun h=>decide ((nM (T::xs.map (·.2)) h.id:Int)=h.bh))=d.store.all (x4 d):=by
  congr 1;funext h;rw[hc];rfl
 simp only[Kr,Bool.and_eq_true,hu,hf];constructor
 ·rintro⟨_,_,_,_,h5,h6⟩;exact⟨h5,h6⟩
 ·rintro⟨h5,h6⟩;refine⟨hS,hT.valid,hl,fun k s hk=>⟨(hw k s hk).1,(hw k s hk).2,?_⟩,h5,h6⟩;obtain⟨x,mD,l9⟩:=LU hx<|List.mem_of_getElem? hk;exact l9.2.2
theorem CJ {d:aK}(h:¬(fg d.store=true∧cU d.tree=true∧d.aw.length≤6∧∀(k:Nat) (s:cG),d.aw[k]? = some s→ep s.name=true∧(k:Int)≤jx d.aw s.name∧cU s.tree=true)):aS d=false:=by
 cases e:aS d with
 | false=>rfl
 | true =>
  obtain⟨h1,h2,h3,h4,_⟩:=cX.1 e;exact absurd ⟨h1,h2,h3,h4⟩ h
theorem sK {xs:List (Bs×Nd)}{L:List cG}(h:e_ xs L)(n:Bs):xs.findIdx? (fun x=>decide (x.1=n))=fc L n:=by
 induction h with
 | nil=>rfl
 | cons h t ih =>
  simp only[fc,List.findIdx?_cons]at ih ⊢;rw[h.1,ih]
theorem Tx {L:List cG}{k:Nat}{s:cG}(hk:L[k]? = some s):((k:Int)≤jx L s.name)↔dV (fc (L.take k) s.name)<0:=by
 have iR:=(List.getElem?_eq_some_iff.1 hk).1;simp only[jx];cases e:fc (L.take k) s.name with
 | none =>
  have h1:fc L s.name=some k:=LV (fun j x hj hx=>by
   simp only[fc,List.findIdx?_eq_none_iff]at e;exact e x<|List.mem_of_getElem? (i:=j)<|by rw[List.getElem?_take,if_pos hj];exact hx) hk (by simp)
  simp[h1,dV]
 | some j =>
  have h2:j<k∧∃x,L[j]? = some x∧x.name=s.name:=by
   simp only[fc]at e;obtain⟨g1,g2,_⟩:=List.findIdx?_eq_some_iff_getElem.1 e;have:j<k:=by simp at g1;omega
   exact⟨this,L[j],by simp,by simpa using g2⟩
  obtain⟨h3,x,h4,h5⟩:=h2;cases e2:fc L s.name with
  | none =>
   simp only[fc,List.findIdx?_eq_none_iff]at e2;have:=e2 x<|List.mem_of_getElem? h4;simp[h5]at this
  | some i =>
   have:i≤j:=by
    simp only[fc]at e2;obtain⟨_,_,g3⟩:=List.findIdx?_eq_some_iff_getElem.1 e2;rcases Nat.lt_or_ge j i with h|h
    ·have:=g3 j h;obtain⟨h6,rfl⟩:=List.getElem?_eq_some_iff.1 h4;simp[h5]at this
    ·exact h
   simp[dV];omega
end Sp
namespace Fw
open Sp
theorem fC.abd {xs:List (Bs×Nd)}{L:List cG}{k:Nat}{s:cG}{x:Bs×Nd}(h:e_ xs (L.take k))(hs:L[k]? = some s)(h1:x.1=s.name)(h2:Nd.ci x.2 s.tree)(h3:cU s.tree=true):e_ (xs++[x]) (L.take<|k+1):=by
 rw[gZ hs];exact h.snoc ⟨h1,h2,h3⟩
theorem ZK {xs:List (Bs×Nd)}{L:List cG}{k:Nat}{s:cG}(hw:∀(j:Nat) (s:cG),j<k→L[j]? = some s→ep s.name=true∧(j:Int)≤jx L s.name)(hz:L[k]? = some s)(h1:ep s.name=true)(bE:e_ xs (L.take k))(h2:dV (xs.findIdx?<|fun x=>decide (x.1=s.name))<0) :
  ∀(j:Nat) (s:cG),j<k+1→L[j]? = some s→ep s.name=true∧(j:Int)≤jx L s.name:=by
 intro j t hj ht;rcases Nat.lt_or_ge j k with h|h
 ·exact hw j t h ht
 ·obtain rfl:j=k:=by omega
  rw[ht]at hz;cases hz;exact⟨h1,(Tx ht).2<|by rw[←sK bE];exact h2⟩
theorem qw {xs:List (Bs×Nd)}{L:List cG}(h:e_ xs L):∀t,t ∈ xs.map (·.2)→t.wf∧t.cnt≤12:=by
 intro t ht;obtain⟨x,hx,rfl⟩:=List.mem_map.1 ht;obtain⟨s,_,hs⟩:=LS h hx;have:=hs.2.1.cnt;have:=gM hs.2.2;exact⟨hs.2.1.wf,by omega⟩
end Fw
namespace Fw
open Go Sp
theorem SE {d:aK}{n:Bs}(h:¬(ep n=true∧(fc d.aw n).isNone=true∧d.aw.length≠6)):cT d n=none:=by
 unfold cT;rw[if_neg];simp only[Bool.and_eq_true,decide_eq_true_eq];exact fun hh=>h ⟨hh.1.1.2,hh.1.2,hh.2⟩
theorem Ah {d:aK}{n:Bs}(hd:aS d=true)(h1:ep n=true)(h2:(fc d.aw n).isNone=true)(h3:d.aw.length≠6):cT d n=(eG d.store d.tree).map (fun s=>⟨s,d.tree,d.aw++[⟨n,d.tree⟩]⟩):=by
 unfold cT;rw[if_pos];simp[hd,h1,h2,h3]
theorem Gl {o:Option Nat}:dV o<0↔o.isNone=true:=by
 cases o<;>simp[dV]
theorem fC.push {xs:List (Bs×Nd)}{L:List cG}{x:Bs×Nd}{s:cG}(h:e_ xs L)(h1:x.1=s.name)(h2:Nd.ci x.2 s.tree)(h3:cU s.tree=true):e_ (xs++[x]) (L++[s]):=h.snoc ⟨h1,h2,h3⟩
theorem jJ.mk {e:TypeId}{F:Fr}{v:Value}{xs:List ao}(h:cz y_ 3 e F v xs):jJ F v xs:=⟨e,h⟩
theorem Sr {xs:List (Bs×Nd)}{L:List cG}(h:e_ xs L):xs.map (fun x=>(⟨x.1,x.2.flat []⟩:cG))=L:=by
 induction h with
 | nil=>rfl
 | cons h t ih =>
  rw[List.map_cons,ih,h.2.1.flat,h.1]
end Fw
namespace Fw
theorem tW:jJ [] (.slice none 0 0) []:=⟨0,by simp,.inl ⟨rfl,rfl,rfl⟩⟩
theorem qp:eJ [] (.slice none 0 0) []:=⟨0,by simp,.inl ⟨rfl,rfl,rfl⟩⟩
theorem tX:jX [] (.slice none 0 0) []:=⟨0,by simp,.inl ⟨rfl,rfl,rfl⟩⟩
end Fw
namespace Fw
open Sp
theorem avX {d d2:aK}{n:Bs}(hd:aS d=true)(h:cT d n=some d2):d2.aw.length≤6:=by
 have h6:=(cX.1 hd).2.2.1;unfold cT at h;split at h
 ·rename_i hc;simp only[Bool.and_eq_true,decide_eq_true_eq]at hc;obtain⟨s,_,rfl⟩:=Option.map_eq_some_iff.1 h;have:=hc.2;simp;omega
 ·cases h
end Fw
namespace Sp
theorem take_set {α:Type}{xs a:List α}{k:Nat}{z:α}(h:xs.take k=a.take k)(hl:xs.length=a.length)(hz:a[k]? = some z):(xs.set k z).take (k+1)=a.take (k+1):=by
 have hk:=(List.getElem?_eq_some_iff.1 hz).1;rw[gZ hz,←h];apply List.ext_getElem?;intro j;rw[List.getElem?_take];rcases Nat.lt_trichotomy j k with h1|h1|h1
 ·rw[if_pos<|by omega,List.getElem?_set_ne<|by omega,List.getElem?_append_left<|by simp;omega,List.getElem?_take,if_pos h1]
 ·subst h1;rw[if_pos<|by omega,List.getElem?_set_self<|by omega,List.getElem?_append_right<|by simp;omega];simp[Nat.min_eq_left (by omega:j≤xs.length)]
 ·rw[if_neg<|by omega,List.getElem?_eq_none<|by simp;omega]
end Sp
namespace Fw
open Go
theorem B8 {α:Type}:∀(Fs:List (List α)) (i:Nat) (Fi:List α),Fs[i]? = some Fi→Fs.flatten=(Fs.take i).flatten++(Fi++(Fs.drop<|i+1).flatten)
 | [],i,_,h=>by simp at h
 | x::r,0,Fi,h=>by simp at h;subst h;simp
 | x::r,i+1,Fi,h=>by
  simp only[List.getElem?_cons_succ]at h;simp only[List.flatten_cons,List.take_succ_cons,List.drop_succ_cons,List.append_assoc];rw[B8 r i Fi h]
theorem avv {α:Type}(Fs:List (List α))(i:Nat)(F':List α)(hi:i<Fs.length):(Fs.set i F').flatten=(Fs.take i).flatten++(F'++(Fs.drop<|i+1).flatten):=by
 have h:=B8 (Fs.set i F') i F' (by simp[hi]);rw[h,List.take_set_of_le<|Nat.le_refl _,List.drop_set_of_lt<|by omega]
theorem U2 {α:Type}{sz:Nat}:∀(bu:List (List α)) (i:Nat) (cs:List α),(∀c ∈ bu,c.length=sz)→bu[i]? = some cs→∀j v,cs[j]? = some v→bu.flatten[i*sz+j]? = some v
 | [],i,cs,_,h,j,v,hv=>by simp at h
 | c::r,0,cs,hl,h,j,v,hv=>by
  simp at h;subst h;rw[List.flatten_cons,Nat.zero_mul,Nat.zero_add,List.getElem?_append_left (List.getElem?_eq_some_iff.1 hv).1];exact hv
 | c::r,i+1,cs,hl,h,j,v,hv=>by
  have hc:=hl c (by simp);simp only[List.getElem?_cons_succ]at h;rw[List.flatten_cons,List.getElem?_append_right<|by rw[hc,Nat.add_mul];omega,hc,Nat.add_mul,show i*sz+1*sz+j-sz=i*sz+j by omega];exact U2 r i cs (fun d hd=>hl d<|by simp[hd]) h j v hv
section
variable {α:Type} {E:Fr→α→List Value→Prop} {sz:Nat}
theorem eY.focus {c:List Value}{xs:List α}{F:Fr}(h:eY E sz c xs F){i:Nat}{x:α}(hx:xs[i]? = some x) :
  ∃(cs:List Value) (F1 Fi F2:Fr),F=F1++(Fi++F2)∧cs.length=sz∧E Fi x cs∧(∀j v,cs[j]? = some v→c[i*sz+j]? = some v) ∧
   (∀(pJ:Fr) (x':α) (off:Nat) (vs:List Value),off+vs.length≤sz→E pJ x' (ee cs off vs)→eY E sz (ee c (i*sz+off) vs) (xs.set i x') (F1++(pJ++F2))) ∧
   ∀(pJ:Fr) (x':α),E pJ x' cs→eY E sz c (xs.set i x') (F1++(pJ++F2)):=by
 obtain⟨bu,Fs,rfl,rfl,h3,h4,h5⟩:=h;obtain⟨cs,Fi,e1,e2,e3,e4⟩:=h5 i x hx;have eF:=eY.GK h3 h5;have D7:i<bu.length:=(List.getElem?_eq_some_iff.1 e1).1
 suffices key:∀(pJ:Fr) (x':α) (off:Nat) (vs:List Value),off+vs.length≤sz→E pJ x' (ee cs off vs)→eY E sz (ee bu.flatten (i*sz+off) vs) (xs.set i x') ((Fs.take i).flatten++(pJ++(Fs.drop<|i+1).flatten)) from
  ⟨cs,_,Fi,_,B8 Fs i Fi e2,e3,e4,U2 bu i cs eF e1,key,fun pJ x' hE=>key pJ x' 0 [] (by simp) hE⟩
 intro pJ x' off vs ho hE;refine⟨bu.set i<|ee cs off vs,Fs.set i pJ,Sm ho bu i cs eF e1,(avv Fs i pJ<|by omega).symm,by simp[h3],by simp[h4],?_⟩;intro j y hy;rw[List.getElem?_set]at hy;rw[List.getElem?_set,List.getElem?_set];by_cases ph:i=j
 ·subst ph;rw[if_pos rfl,if_pos<|by omega]at hy;simp only[Option.some.injEq]at hy;subst hy;rw[if_pos rfl,if_pos D7,if_pos rfl,if_pos<|by omega];exact⟨_,_,rfl,rfl,by rw[v_];exact e3,hE⟩
 ·rw[if_neg ph]at hy;rw[if_neg ph,if_neg ph];exact h5 j y hy
theorem eY.rep {z:List Value}{x0:α}(h:E [] x0 z)(hl:z.length=sz)(n:Nat):eY E sz (Fw.rep n z) (List.replicate n x0) []:=by
 refine⟨List.replicate n z,List.replicate n [],Sb z n,by simp,by simp,by simp,fun i x hx=>?_⟩;have hi:=(List.getElem?_eq_some_iff.1 hx).1;simp only[List.length_replicate]at hi;simp[hi]at hx;subst hx;exact⟨z,[],by simp[hi],by simp[hi],hl,h⟩
variable {w0 w w':World} {G0 G G':PH} {S:List Nat} {B Bs:List aW}
end
section ops
variable {P:Program} {n:Nat} {ops:Array Oper} {Q:dp} {rest:List Oper} {L:br} {ds:List Deferred} {w w0:World} {G0:PH} {S:List Nat} {G:PH} {B:List aW}
variable {ty:TypeId} {ps:String} {af:Array Edge}
theorem JU (k:Nat)(H:Hp w0 G0 S w G B){d:Nat}{s t e e2:TypeId}{x:Operand}{b c:Nat}{p:Int}(hs:P.underlying s=some (.slice e))(he:P.underlying e=some (.int .u8))(ht:P.underlying t=some .string)
  (hd:Nat.blt d n=true) (hx:od L x=some (.slice (some ⟨b,0,none⟩) 1 c)) (hk:nth B k=some (ai b<|cl [.int .u8 p] e2))
  (next:R P n ops Q rest ((d,str [UInt8.ofNat p.toNat])::L) ds w):R P n ops Q (⟨some d,.convert s t x,ty,ps,af,none⟩::rest) L ds w :=
 cP hd (fun a ha=>by
  have hb:=(H.gP hk).1
  have:=run_convert_bytes_arg (P:=P) (w:=w) s e hs he b 0 1 c [p] rfl (fun i hi=>by
   obtain rfl:i=0:=by omega
   simp[World.cell?,hb]) t ht
  simp[execOp,ha.eval hx,this,strOfNums]) next
end ops
section
variable {w0 w w':World} {G0 G G':PH} {S:List Nat} {B Bs:List aW}
theorem Hp.Zq (H:Hp w0 G0 S w G B){ks:List Nat}{k:Nat}{F:Fr}{v:Value}{xs:List aj}(hk:nth B k=some (aA F))(hm:ks.contains k=true)(h:eJ F v xs):cL (cW G w<|hP B ks) v xs :=
 h.rd (fun b o hb=>H.jH hk hm b o hb) (j0 H hk)
theorem jX.mk {e:TypeId}{F:Fr}{v:Value}{xs:List cG}(h:cz sL 2 e F v xs):jX F v xs:=⟨_,h⟩
theorem OI.mk {e:TypeId}{F:Fr}{v:Value}{xs:List Int}(h:cz QI 1 e F v xs):OI F v xs:=⟨_,h⟩
end
section
variable {α:Type}
def cnt (c:α→Nat):List α→Nat
 | []=>0
 | x::r=>c x+cnt c r
variable {f:Int→α→α} {c:α→Nat}
theorem Lr:∀(a b:List α),cnt c (a++b)=cnt c a+cnt c b
 | [],b=>by simp[cnt]
 | x::r,b=>by simp[cnt,Lr r b];omega
theorem take_succ {a:List α}{i:Nat}{x:α}(h:a[i]? = some x):a.take (i+1)=a.take i++[x]:=by
 rw[List.take_add_one,h];rfl
theorem aeP {a:List α}{i:Nat}{x:α}(h:a[i]? = some x):cnt c (a.take<|i+1)=cnt c (a.take i)+c x:=by
 rw[take_succ h,Lr];simp[cnt]
theorem T0 {a:List α}{i:Nat}{x:α}(h:a[i]? = some x):cnt c (a.take i)+c x≤cnt c a:=by
 rw[←aeP h]
 conv=>rhs;rw[←List.take_append_drop (i+1) a,Lr]
 omega
end
def mI (k:Int)(_:Int):Int:=k
end Fw
namespace Sp
open Go Fw
theorem qM {L:List ao}(nd:(L.map (·.id)).Nodup){x:ao}(h:x ∈ L):cE L x.id=x:=by
 cases e:Sp.bZ L x.id with
 | none=>exact absurd (List.mem_map_of_mem h)<|Fw.yi e
 | some j =>
  obtain⟨y,hy,hid⟩:=Fw.sU e;rw[HV e hy];obtain⟨i,hi⟩:=List.getElem?_of_mem h;have h1:(L.map (·.id))[i]? = some x.id:=by simp[hi]
  have h2:(L.map (·.id))[j]? = some x.id:=by simp[hy,hid]
  obtain⟨l1,e1⟩:=List.getElem?_eq_some_iff.1 h1;obtain⟨l2,e2⟩:=List.getElem?_eq_some_iff.1 h2;have:i=j:=by
   have hp:=List.pairwise_iff_getElem.1 nd;rcases Nat.lt_trichotomy i j with ef|DZ|ef
   ·exact absurd (e1.trans e2.symm)<|hp i j l1 l2 ef
   ·exact DZ
   ·exact absurd (e2.trans e1.symm)<|hp j i l2 l1 ef
  subst this;rw[hi]at hy;exact(Option.some.inj hy).symm
theorem at_mem {L:List ao}{a:Int}:(Sp.bZ L a).isSome=true↔a ∈ L.map (·.id):=by
 constructor
 ·intro h;obtain⟨i,hi⟩:=Option.isSome_iff_exists.1 h;obtain⟨y,hy,rfl⟩:=Fw.sU hi;exact List.mem_map_of_mem<|List.mem_of_getElem? hy
 ·intro h;cases e:Sp.bZ L a with
  | none=>exact absurd h<|Fw.yi e
  | some i=>rfl
theorem uO {L:List ao}{a:Int}(h:a ∉ L.map (·.id)):cE L a=⟨0,[],0⟩:=by
 refine AQ ?_;cases e:(Sp.bZ L a).isSome with
 | false=>rfl
 | true=>exact absurd (at_mem.1 e) h
theorem Md {L L':List ao}(nd:(L.map (·.id)).Nodup)(hp:L.Perm L')(a:Int):cE L' a=cE L a:=by
 have l8:(L.map (·.id)).Perm (L'.map (·.id)):=hp.map _;by_cases h:a ∈ L.map (·.id)
 ·obtain⟨x,hx,rfl⟩:=List.mem_map.1 h;rw[qM nd hx,qM (l8.nodup_iff.1 nd)<|hp.mem_iff.1 hx]
 ·rw[uO h,uO<|fun h'=>h<|l8.mem_iff.2 h']
theorem Me {L:List ao}(nd:(L.map (·.id)).Nodup)(y:ao)(a:Int):cE (jV L y) a=if a=y.id then y else cE L a:=by
 have hp:=abD nd y;have q6:∀x,x ∈ L.filter (fun x=>decide (x.id≠y.id))→x ∈ L∧x.id≠y.id:=fun x hx=>by simpa using List.mem_filter.1 hx
 have BT:((y::L.filter (fun x=>decide (x.id≠y.id))).map (·.id)).Nodup:=by
  rw[List.map_cons,List.nodup_cons];refine⟨fun h=>?_,List.Nodup.sublist ((List.filter_sublist).map _) nd⟩;obtain⟨x,hx,e⟩:=List.mem_map.1 h;exact(q6 x hx).2 e
 rw[Md BT hp.symm];split
 ·next e=>subst e;exact qM BT (by simp)
 ·next e =>
  by_cases h:a ∈ L.map (·.id)
  ·obtain⟨x,hx,rfl⟩:=List.mem_map.1 h;rw[qM nd hx];exact qM BT<|List.mem_cons_of_mem _<|List.mem_filter.2 ⟨hx,by simpa using e⟩
  ·rw[uO h];refine uO<|fun h'=>?_;simp only[List.map_cons,List.mem_cons]at h';rcases h' with h'|h'
   ·exact e h'
   ·obtain⟨x,hx,rfl⟩:=List.mem_map.1 h';exact h<|List.mem_map_of_mem (q6 x hx).1
theorem agt {L:List ao}(nd:(L.map (·.id)).Nodup)(id a:Int):cE (qJ L id) a=if a=id then⟨0,[],0⟩ else cE L a:=by
 have hp:=Uv nd id;have q6:∀x,x ∈ L.filter (fun x=>decide (x.id≠id))→x ∈ L∧x.id≠id:=fun x hx=>by simpa using List.mem_filter.1 hx
 have BT:((L.filter<|fun x=>decide (x.id≠id)).map (·.id)).Nodup:=List.Nodup.sublist ((List.filter_sublist).map _) nd;rw[Md BT hp.symm];split
 ·next e =>
  subst e;refine uO<|fun h'=>?_;obtain⟨x,hx,e⟩:=List.mem_map.1 h';exact(q6 x hx).2 e
 ·next e =>
  by_cases h:a ∈ L.map (·.id)
  ·obtain⟨x,hx,rfl⟩:=List.mem_map.1 h;rw[qM nd hx];exact qM BT<|List.mem_filter.2 ⟨hx,by simpa using e⟩
  ·rw[uO h];refine uO<|fun h'=>?_;obtain⟨x,hx,rfl⟩:=List.mem_map.1 h';exact h<|List.mem_map_of_mem (q6 x hx).1
def us (L:List ao)(a:Int):Int:=(cE L a).bh
def dR (L:List ao)(a:Int):List Int:=(cE L a).bytes
theorem SM {L:List ao}(hV:VH L)(a:Int):0≤us L a:=by
 unfold us;cases h:(Sp.bZ L a).isSome with
 | false=>rw[AQ h];simp
 | true=>have:=(rQ hV h).2.2.1;omega
theorem qz {L:List ao}(hV:VH L){a:Int}:0<us L a↔(Sp.bZ L a).isSome=true:=by
 unfold us;cases h:(Sp.bZ L a).isSome with
 | false=>rw[AQ h];simp
 | true=>have:=(rQ hV h).2.2.1;simp;omega
theorem afq {L:List ao}(hV:VH L){id:Int}(h:0<us L id) :
  ∃L',il L id=some L'∧VH L'∧∀a,us L' a=us L a-(if a=id then 1 else 0)∧(0<us L' a→dR L' a=dR L a):=by
 have hs:=(qz hV).1 h;have hid:=HW hs;by_cases hu:(cE L id).bh=1
 ·obtain⟨h1,h2⟩:=UC hV hs hu;refine⟨_,h1,h2,fun a=>?_⟩;unfold us dR;rw[agt hV.nd];by_cases e:a=id
  ·subst e;simp[hu]
  ·simp[e]
 ·obtain⟨h1,h2⟩:=UD hV hs hu;refine⟨_,h1,h2,fun a=>?_⟩;unfold us dR;rw[Me hV.nd,←hid];by_cases e:a=id
  ·subst e;simp
  ·simp[e]
theorem yp (a x:Int)(r:List Int):fs a (x::r)=(if a=x then 1 else 0)+fs a r:=by
 unfold fs;rw[List.countP_cons];by_cases e:a=x
 ·subst e;simp;omega
 ·have:¬x=a:=fun h=>e h.symm;simp[e,this]
theorem rM {α β:Type}{f:α→β→Option α}{b:β}{r:List β}{a a':α}(h:f a b=some a'):ct f (b::r) (some a)=ct f r (some a'):=by
 simp[ct,h]
theorem UH:∀(ids:List Int) {L:List ao},VH L→(∀a,(fs a ids:Int)≤us L a) →
  ∃L',ct il ids (some L)=some L'∧VH L'∧∀a,us L' a=us L a-(fs a ids:Int)∧(0<us L' a→dR L' a=dR L a)
 | [],L,hV,_=>⟨L,rfl,hV,fun a=>by simp[fs]⟩
 | x::r,L,hV,h=>by
  have hx:=h x;rw[yp,if_pos rfl]at hx;obtain⟨L1,h1,h2,h3⟩:=afq hV (id:=x) (by push_cast at hx;omega)
  obtain⟨L2,g1,g2,g3⟩:=UH r h2 (fun a=>by
   have h8:=h a;rw[yp]at h8;have h4:=(h3 a).1;by_cases e:a=x
   ·rw[if_pos e]at h8 h4;omega
   ·rw[if_neg e]at h8 h4;omega)
  refine⟨L2,by rw[rM h1];exact g1,g2,fun a=>?_⟩;have h4:=h3 a;have h5:=g3 a;rw[yp];refine⟨?_,fun hp=>?_⟩
  ·have h8:=h4.1;have h9:=h5.1;by_cases e:a=x
   ·rw[if_pos e]at h8 ⊢;omega
   ·rw[if_neg e]at h8 ⊢;omega
  ·rw[h5.2 hp,h4.2 ?_];have:=h5.1;omega
theorem Ma {L:List ao}(hV:VH L){ids:List Int}(hl:dh L ids=true)(h:∀a,(fs a ids:Int)≤us L a) :
  ∃L',fo L ids=some L'∧VH L'∧∀a,us L' a=us L a-(fs a ids:Int)∧(0<us L' a→dR L' a=dR L a):=by
 obtain⟨L',h1,h2⟩:=UH ids hV h;exact⟨L',by simp[fo,eX.2 hV,hl,h1],h2⟩
theorem QP {L:List ao}(hV:VH L){id:Int}{L':List ao}(h:fa L id=some L'):VH L'∧0<us L id∧∀a,us L' a=us L a+(if a=id then 1 else 0)∧dR L' a=dR L a:=by
 have hs:(Sp.bZ L id).isSome=true:=by
  cases e:(Sp.bZ L id).isSome with
  | true=>rfl
  | false=>rw[BM hV<|.inl e]at h;cases h
 have hu:(cE L id).bh<999:=by
  by_cases h1:(cE L id).bh<999
  ·exact h1
  ·rw[BM hV<|.inr<|by omega]at h;cases h
 obtain⟨h1,h2⟩:=QO hV hs hu;rw[h1]at h;cases h;have hid:=HW hs;refine⟨h2,(qz hV).2 hs,fun a=>?_⟩;unfold us dR;rw[Me hV.nd,←hid];by_cases e:a=id
 ·subst e;simp
 ·simp[e]
theorem auN {L:List ao}(hV:VH L){b:List Int}(hb:fV b=true){L':List ao}{id:Int}(h:gN L b=some (L',id)) :
  VH L'∧(∀a,us L' a=us L a+(if a=id then 1 else 0)∧(0<us L a→dR L' a=dR L a))∧dR L' id=b:=by
 cases e:kf L b with
 | none =>
  by_cases hl:L.length<16
  ·rw[aaz hV hb e hl]at h;simp only[Option.some.injEq,Prod.mk.injEq]at h;obtain⟨rfl,rfl⟩:=h;have hw:=SX hV hb e hl;have hf:=(HM L).1;obtain⟨k,hk⟩:∃k,iA L=k+1:=⟨iA L-1,by omega⟩;have hp:=aaD (L:=L) b hk;have NI:(iA L:Int)=(k:Int)+1:=by omega
   have hg:∀a,cE (ri L b) a=if a=(iA L:Int) then⟨(k:Int)+1,b,1⟩ else cE L a:=fun a=>by
    have jE:((jV L ⟨(k:Int)+1,b,1⟩).map (·.id)).Nodup:=(hp.map (·.id)).nodup_iff.2 hw.nd;rw[Md jE hp,Me hV.nd,NI]
   have h0:cE L (iA L:Int)=⟨0,[],0⟩:=Mc<|L_ L;refine⟨hw,fun a=>?_,?_⟩
   ·unfold us dR;rw[hg];by_cases ea:a=(iA L:Int)
    ·subst ea;simp[h0]
    ·simp[ea]
   ·unfold dR;rw[hg,if_pos rfl]
  ·rw[J9 e<|by omega]at h;cases h
 | some i =>
  obtain⟨hi,hp,_⟩:=List.findIdx?_eq_some_iff_getElem.1 e;have hx:L[i]? = some L[i]:=List.getElem?_eq_getElem hi;rw[aaC hV hb e hx]at h;obtain⟨l,h1,h2⟩:=Option.map_eq_some_iff.1 h;simp only[Prod.mk.injEq]at h2;obtain⟨rfl,rfl⟩:=h2;obtain⟨k1,k2,k3⟩:=QP hV h1;refine⟨k1,fun a=>⟨(k3 a).1,fun _=>(k3 a).2⟩,?_⟩;rw[(k3 _).2];unfold dR;rw[qM hV.nd<|List.getElem_mem hi];simpa [iH] using hp
theorem aaE:∀(bs:List (List Int)) {L:List ao} {acc:List Int} {s:List ao} {ids:List Int},VH L→(∀b,b ∈ bs→fV b=true)→ct pF bs (some (L,acc))=some (s,ids) →
  VH s∧∃new,ids=acc++new∧new.length=bs.length∧(∀a,us s a=us L a+(fs a new:Int)∧(0<us L a→dR s a=dR L a))∧∀(i:Nat) (id:Int),new[i]? = some id→some (dR s id)=bs[i]?
 | [],L,acc,s,ids,hV,_,h=>by
  simp only[ct,List.foldl_nil,Option.some.injEq,Prod.mk.injEq]at h;obtain⟨rfl,rfl⟩:=h;exact⟨hV,[],by simp,rfl,fun a=>by simp[fs],by simp⟩
 | b::r,L,acc,s,ids,hV,hb,h=>by
  cases e:gN L b with
  | none =>
   have:ct pF (b::r) (some (L,acc))=ct pF r none:=by simp[ct,pF,e]
   rw[this,rN]at h;cases h
  | some q =>
   obtain⟨L1,id⟩:=q;rw[rM (a':=(L1,acc++[id]))<|by simp[pF,e]]at h;obtain⟨k1,k2,k3⟩:=auN hV (hb b<|by simp) e;obtain⟨g1,new,g2,g3,g4,g5⟩:=aaE r k1 (fun c hc=>hb c<|by simp[hc]) h;refine⟨g1,id::new,by rw[g2];simp,by simp[g3],fun a=>?_,fun i z hz=>?_⟩
   ·rw[yp];have h8:=(k2 a).1;have h9:=(g4 a).1;have hn:=SM hV a;refine⟨?_,fun hp=>?_⟩
    ·by_cases ea:a=id
     ·rw[if_pos ea]at h8 ⊢;omega
     ·rw[if_neg ea]at h8 ⊢;omega
    ·have h7:us L a≤us L1 a:=by
      by_cases ea:a=id
      ·rw[if_pos ea]at h8;omega
      ·rw[if_neg ea]at h8;omega
     rw[(g4 a).2<|by omega,(k2 a).2 hp]
   ·cases i with
    | zero =>
     simp only[List.getElem?_cons_zero,Option.some.injEq]at hz;subst hz;have h8:=(k2 id).1;rw[if_pos rfl]at h8;have hn:=SM hV id;rw[(g4 id).2<|by omega,k3];rfl
    | succ i =>
     simp only[List.getElem?_cons_succ]at hz ⊢;exact g5 i z hz
theorem ael {b:List Int}(h:jz b=true):∀c,c ∈ kL b→fV c=true:=by
 intro c hc;unfold kL at hc;obtain⟨k,hk,rfl⟩:=List.mem_map.1 hc;refine TS h ?_;rw[AE];have:=List.mem_range.1 hk;omega
theorem GJ {L:List ao}(hV:VH L){b:List Int}{s:List ao}{ids:List Int}(h:ek L b=some (s,ids)) :
  VH s∧ids.length=(kL b).length∧(∀a,us s a=us L a+(fs a ids:Int)∧(0<us L a→dR s a=dR L a))∧∀(i:Nat) (id:Int),ids[i]? = some id→some (dR s id)=(kL b)[i]? := by
 unfold ek at h;split at h
 ·rename_i hc;simp only[Bool.and_eq_true]at hc;obtain⟨g1,new,g2,g3,g4,g5⟩:=aaE (kL b) hV (ael hc.2) h;rw[List.nil_append]at g2;subst g2;exact⟨g1,g3,g4,g5⟩
 ·cases h
theorem FP {L s:List ao}(hV:VH L)(hs:VH s)(h:∀a,0<us L a→0<us s a∧dR s a=dR L a){ids:List Int}(hl:dh L ids=true):dh s ids=true:=by
 refine zM (fun j hj=>?_)<|xE hl;have hz:ids[j]? = some ids[j]:=List.getElem?_eq_getElem hj;have h1:nW L ids j=true:=by
  simp only[dh,Bool.and_eq_true]at hl;exact List.all_eq_true.1 hl.1 j (by simpa using hj)
 have hp:(Sp.bZ L ids[j]).isSome=true:=by
  cases e:(Sp.bZ L ids[j]).isSome with
  | true=>rfl
  | false=>rw[Jp hz e]at h1;cases h1
 have h2:=h _<|(qz hV).2 hp;rw[BH hz<|(qz hs).1 h2.1];rw[BH hz hp]at h1;have h3:(cE s ids[j]).bytes=(cE L ids[j]).bytes:=h2.2;rw[h3];exact h1
theorem FO {L:List ao}(hV:VH L){ids:List Int}(hl:dh L ids=true){a:Int}(ha:a ∈ ids):0<us L a:=by
 obtain⟨j,hz⟩:=List.getElem?_of_mem ha;have hj:=(List.getElem?_eq_some_iff.1 hz).1;have h1:nW L ids j=true:=by
  simp only[dh,Bool.and_eq_true]at hl;exact List.all_eq_true.1 hl.1 j (by simpa using hj)
 refine(qz hV).2 ?_;cases e:(Sp.bZ L a).isSome with
 | true=>rfl
 | false=>rw[Jp hz e]at h1;cases h1
theorem uI {a:Int}{ids:List Int}:0<fs a ids↔a ∈ ids:=by
 unfold fs;rw[List.countP_pos_iff];constructor
 ·rintro⟨x,hx,e⟩;have:x=a:=by simpa using e
  exact this▸hx
 ·intro h;exact⟨a,h,by simp⟩
end Sp
namespace Sp
open Go Fw Fw.Nd
def eb (l:List aj)(a:Int):Nat:=(l.map<|fun x=>fs a x.ids).sum
theorem Y3 (l:List aj)(a:Int):qk l a=eb l a:=by simp[qk,pb,eb]
theorem yq {l:List aj}{x:aj}(hx:x ∈ l)(a:Int):fs a x.ids≤eb l a:=by
 induction l with
 | nil=>simp at hx
 | cons y r ih =>
  simp only[eb,List.map_cons,List.sum_cons]at *;rcases List.mem_cons.1 hx with rfl|hx
  ·omega
  ·have:=ih hx;omega
theorem uJ {l m:List aj}(h:l.Perm m)(a:Int):eb l a=eb m a:=(h.map _).sum_nat
theorem pS (x:aj)(l:List aj)(a:Int):eb (x::l) a=fs a x.ids+eb l a:=by simp[eb]
theorem aeM {l:List aj}{a:Int}(h:∀x,x ∈ l→a ∉ x.ids):eb l a=0:=by
 induction l with
 | nil=>rfl
 | cons y r ih =>
  rw[pS,ih<|fun x hx=>h x<|by simp[hx]];have:=h y (by simp);rw[←uI]at this;omega
theorem arj {p:Bs}{ids:List Int}(hp:cB p=true)(hl:ids.length≤4)(h:ids.all (kJ false)=true):fB ⟨p,false,ids⟩=true:=by
 simp[fB,hp,hl,h]
theorem Ga {l:List aj}(h:l.Pairwise fS):l.Nodup:=by
 refine List.Pairwise.imp ?_ h;intro a b MS e;subst e;exact absurd MS (by simp[fS,lt_irrefl])
theorem J_ {l t:List aj}{x:aj}(h:dZ l x=some t):VT l∧VT t∧fB x=true∧t.Perm (x::l.filter (fun y=>decide (y.path≠x.path))):=by
 unfold dZ at h;split at h
 ·rename_i hc;simp only[Bool.and_eq_true]at hc;have hv:=jI.1 hc.1;simp at h;obtain⟨_,hp,rfl⟩:=h;have hp:=jI.1 hp;refine⟨hv,hp,hc.2,?_⟩;have n1:=Ga hp.d_
  have n2:(x::l.filter (fun y=>decide (y.path≠x.path))).Nodup:=by
   rw[List.nodup_cons];exact⟨fun hm=>by simpa using (List.mem_filter.1 hm).2,(Ga hv.d_).sublist List.filter_sublist⟩
  rw[List.perm_ext_iff_of_nodup n1 n2];intro a;rw[sI,List.mem_cons,List.mem_filter];simp
 ·cases h
theorem filter_none {l:List aj}{p:Bs}(h:∀y,y ∈ l→y.path≠p):l.filter (fun y=>decide (y.path≠p))=l:=by
 rw[List.filter_eq_self];intro y hy;simpa using h y hy
theorem filter_one {l:List aj}(hs:l.Pairwise fS){x:aj}(hx:x ∈ l):l.Perm (x::l.filter (fun y=>decide (y.path≠x.path))):=by
 have n1:=Ga hs
 have n2:(x::l.filter (fun y=>decide (y.path≠x.path))).Nodup:=by
  rw[List.nodup_cons];exact⟨fun hm=>by simpa using (List.mem_filter.1 hm).2,n1.sublist List.filter_sublist⟩
 rw[List.perm_ext_iff_of_nodup n1 n2];intro a;rw[List.mem_cons,List.mem_filter];constructor
 ·intro ha;by_cases e:a.path=x.path
  ·left;obtain⟨i,h1,h2⟩:=(kx hs (p:=x.path)).2.1 _ ha e;obtain⟨j,h3,h4⟩:=(kx hs (p:=x.path)).2.1 _ hx rfl;rw[h1]at h3;cases h3;rw[h2]at h4;exact Option.some.inj h4
  ·exact .inr ⟨ha,by simpa using e⟩
 ·rintro(rfl|⟨h,_⟩)
  ·exact hx
  ·exact h
theorem aq5 {l:List aj}(hs:l.Pairwise fS)(p:Bs):(gv l p=[]∧∀y,y ∈ l→y.path=p→y.dir=true)∨∃x,x ∈ l∧x.path=p∧x.dir=false∧gv l p=[x]:=by
 unfold gv;cases e:cD l p with
 | none =>
  left;refine⟨rfl,fun y hy hp=>?_⟩;obtain⟨i,h1,_⟩:=(kx hs (p:=p)).2.1 _ hy hp;rw[e]at h1;cases h1
 | some i =>
  obtain⟨y,h1,h2⟩:=(kx hs (p:=p)).1 i e;simp only[h1];cases hd:y.dir with
  | true =>
   left;refine⟨by simp,fun z hz hp=>?_⟩;obtain⟨j,g1,g2⟩:=(kx hs (p:=p)).2.1 _ hz hp;rw[e]at g1;cases g1;rw[h1]at g2;cases g2;exact hd
  | false=>exact .inr ⟨y,List.mem_of_getElem? h1,h2,hd,by simp⟩
theorem Gx {l:List aj}(hs:l.Pairwise fS){x y:aj}(hy:y ∈ l)(hp:y.path=x.path)(hd:(y.dir||x.dir)=true):dZ l x=none:=by
 obtain⟨i,h1,h2⟩:=(kx hs (p:=x.path)).2.1 _ hy hp;simp[dZ,h1,h2,hd]
structure lp (L:List ao) (t:List aj):Prop where
 vh:VH L
 vt:VT t
 ids:∀x,x ∈ t→dh L x.ids=true
 le:∀a,(eb t a:Int)≤us L a
theorem BI {s s':List ao}(hs:VH s)(Pt:VH s'){ids:List Int}(h:∀a,a ∈ ids→0<us s' a∧dR s' a=dR s a)(hl:dh s ids=true):dh s' ids=true:=by
 refine zM (fun j hj=>?_)<|xE hl;have hz:ids[j]? = some ids[j]:=List.getElem?_eq_getElem hj;have h1:nW s ids j=true:=by
  simp only[dh,Bool.and_eq_true]at hl;exact List.all_eq_true.1 hl.1 j (by simpa using hj)
 have hp:(Sp.bZ s ids[j]).isSome=true:=by
  cases e:(Sp.bZ s ids[j]).isSome with
  | true=>rfl
  | false=>rw[Jp hz e]at h1;cases h1
 have h2:=h ids[j]<|List.getElem_mem hj;rw[BH hz<|(qz Pt).1 h2.1];rw[BH hz hp]at h1;have h3:(cE s' ids[j]).bytes=(cE s ids[j]).bytes:=h2.2;rw[h3];exact h1
theorem abj {L s:List ao}(hV:VH L){b:List Int}{ids:List Int}(eC:ek L b=some (s,ids)):dh s ids=true:=by
 obtain⟨hs,hlen,xA,Xh⟩:=GJ hV eC;refine zM (fun j hj=>?_) ?_
 ·have hz:ids[j]? = some ids[j]:=List.getElem?_eq_getElem hj;have hp:0<us s ids[j]:=by
   have:=(xA ids[j]).1;have:=SM hV ids[j];have:=uI.2<|List.getElem_mem hj;omega
  rw[BH hz<|(qz hs).1 hp];have h5:=Xh j _ hz;have h6:(kL b)[j]? = some (chunk b j):=by
   have ig:j<(kL b).length:=by omega
   unfold kL at ig ⊢;simp at ig;simp[ig]
  rw[h6]at h5;have h7:(cE s ids[j]).bytes=chunk b j:=Option.some.inj h5;rw[h7,AE];have h8:ids.length=(b.length+7) / 8:=by rw[hlen];simp[kL]
  by_cases ef:j+1<ids.length
  ·have:¬(min (8*j+8) b.length-8*j<8):=by omega
   simp[this]
  ·simp[ef]
 ·have:(kL b).length≤4:=by
   unfold ek at eC;split at eC
   ·rename_i hc;simp only[Bool.and_eq_true]at hc;have:=rK hc.2;simp[kL];omega
   ·cases eC
  omega
theorem ab4 {L:List ao}{l:List aj}(hu:lp L l){p:Bs}{b:List Int}{s:List ao}{ids:List Int}(eC:ek L b=some (s,ids)){t:List aj}(gI:dZ l ⟨p,false,ids⟩=some t) :
  ∃s',(∀o,gv l p=[o]→fo s o.ids=some s')∧(gv l p=[]→s'=s)∧gp ⟨L,l⟩ p b=some ⟨s',t⟩∧lp s' t ∧
   ∀a,us s' a=us L a+(eb t a:Int)-(eb l a:Int)∧(0<us s' a→dR s' a=dR s a):=by
 obtain⟨hs,hlen,xA,Xh⟩:=GJ hu.vh eC;obtain⟨_,ht,hx,tC⟩:=J_ gI
 have XP:∀a,0<us L a→0<us s a∧dR s a=dR L a:=fun a ha=>by
  have:=xA a;exact⟨by omega,this.2 ha⟩
 have dy:=abj hu.vh eC
 have hold:∀x,x ∈ t→dh s x.ids=true:=fun x Ja=>by
  rcases List.mem_cons.1 (tC.mem_iff.1 Ja) with rfl|hm
  ·exact dy
  ·exact FP hu.vh hs XP (hu.ids x (List.mem_filter.1 hm).1)
 have bo:∀s',VH s'→(∀a,0<eb t a→0<us s' a∧dR s' a=dR s a)→∀x,x ∈ t→dh s' x.ids=true:=fun s' Pt hk x Ja =>
  BI hs Pt (fun a ha=>hk a<|Nat.lt_of_lt_of_le (uI.2 ha)<|yq Ja a) (hold x Ja)
 have V_:∀a,eb t a=fs a ids+eb (l.filter<|fun y=>decide (y.path≠p)) a:=fun a=>by rw[uJ tC,pS]
 rcases aq5 hu.vt.d_ p with ⟨h0,aP⟩|⟨o,ho,oN,IS,h1⟩
 ·have de:∀y,y ∈ l→y.path≠p:=fun y hy hp=>by
   have:=Gx hu.vt.d_ (x:=⟨p,false,ids⟩) hy hp (by simp[aP y hy hp]);rw[this]at gI;cases gI
  have cY:∀a,us s a=us L a+(eb t a:Int)-(eb l a:Int):=fun a=>by
   rw[V_,filter_none de,(xA a).1];omega
  have aX:∀a,(eb t a:Int)≤us s a:=fun a=>by have:=cY a;have:=hu.le a;omega
  refine⟨s,fun o ho=>(by rw[h0]at ho;cases ho),fun _=>rfl,?_,⟨hs,ht,bo s hs<|fun a ha=>⟨by have:=aX a;omega,rfl⟩,aX⟩,fun a=>⟨cY a,fun _=>rfl⟩⟩;simp[gp,eC,gI,h0,yz]
 ·have Wm:=filter_one hu.vt.d_ ho;rw[oN]at Wm;have V9:∀a,eb l a=fs a o.ids+eb (l.filter<|fun y=>decide (y.path≠p)) a:=fun a=>by rw[uJ Wm,pS]
  have hle:∀a,(fs a o.ids:Int)≤us s a:=fun a=>by
   have:=(xA a).1;have:=hu.le a;have:=V9 a;omega
  obtain⟨s',g1,g2,g3⟩:=Ma hs (FP hu.vh hs XP<|hu.ids o ho) hle
  have cY:∀a,us s' a=us L a+(eb t a:Int)-(eb l a:Int):=fun a=>by
   have:=(xA a).1;have:=V9 a;have:=(g3 a).1;have:=V_ a;omega
  have aX:∀a,(eb t a:Int)≤us s' a:=fun a=>by have:=cY a;have:=hu.le a;omega
  refine⟨s',fun o' Bk=>(by rw[h1]at Bk;cases Bk;exact g1),fun h=>(by rw[h1]at h;cases h),?_,⟨g2,ht,bo s' g2 (fun a ha=>by
    have h5:=aX a;exact⟨by omega,(g3 a).2<|by omega⟩),aX⟩,fun a=>⟨cY a,(g3 a).2⟩⟩
  simp[gp,eC,gI,h1,yz,g1]
theorem abk {L s:List ao}(hV:VH L){p:Bs}(hp:cB p=true){b:List Int}{ids:List Int}(eC:ek L b=some (s,ids)):fB ⟨p,false,ids⟩=true:=by
 have h4:=abj hV eC;obtain⟨hs,_⟩:=GJ hV eC;refine arj hp (xE h4) (List.all_eq_true.2 fun a ha=>?_);have:=(rQ hs<|(qz hs).1<|FO hs h4 ha).1;simp[kJ,ff];omega
theorem agd {s:List ao}(h:VH s):fo s []=some s:=by
 have:dh s []=true:=zM (by simp) (by simp);simp[fo,eX.2 h,this,ct]
theorem ab2 {L:List ao}{l:List aj}{T:Nd}{p:Bs}{b:List Int}{s:List ao}{ids:List Int}{nb:Nat}{T':Nd}(hH:lp L l)(hT:ci T l)(hp:cB p=true)(eC:ek L b=some (s,ids))
  (jF:T.kN ⟨p,false,ids⟩ nb=some T') {fr:List Int} (gH:(T.find p=none∧fr=[])∨∃d,T.find p=some d∧fr=d.ids) :
  ∃s' t,fo s fr=some s'∧gp ⟨L,l⟩ p b=some ⟨s',t⟩∧ci T' t∧lp s' t:=by
 have hx:=abk hH.vh hp eC;obtain⟨h1,h2⟩:=put_eq nb hT hx;rw[jF]at h1;obtain⟨t,ht⟩:=Option.isSome_iff_exists.1 h1.symm;have w9:=h2 T' jF;rw[ht]at w9;obtain⟨s',g1,g2,g3,g4,_⟩:=ab4 hH eC ht;refine⟨s',t,?_,g3,w9,g4⟩;have hs:=(GJ hH.vh eC).1;have eI:=yy hT p;rcases gH with ⟨hn,rfl⟩|⟨d,hd,rfl⟩
 ·rw[hn]at eI;have:gv l p=[]:=by
   unfold gv;cases e:cD l p with
   | none=>rfl
   | some i =>
    rw[e]at eI;simp only[Option.map_none,Option.bind_some]at eI;simp only[←eI]
  rw[g2 this];exact agd hs
 ·rw[hd]at eI;cases e:cD l p with
  | none=>rw[e]at eI;simp at eI
  | some i =>
   rw[e]at eI;simp only[Option.map_some,Option.bind_some]at eI;have hl:gv l p=if d.dir then[] else[⟨p,d.dir,d.ids⟩]:=by
    unfold gv;simp only[e,←eI]
   cases DV:d.dir with
   | true =>
    have:=Gx hH.vt.d_ (x:=⟨p,false,ids⟩) (List.mem_of_getElem? eI.symm) rfl (by simp[DV]);rw[this]at ht;cases ht
   | false =>
    rw[DV]at hl;exact g1 _ hl
theorem awM {L:List ao}{l:List aj}{p:Bs}{b:List Int}(hp:cB p=false):gp ⟨L,l⟩ p b=none:=by
 unfold gp;cases ek L b with
 | none=>rfl
 | some r =>
  have:dZ l ⟨p,false,r.2⟩=none:=by simp[dZ,fB,hp]
  simp[this]
theorem ab3 {L:List ao}{l:List aj}{T:Nd}{p:Bs}{b:List Int}{s:List ao}{ids:List Int}{nb:Nat}(hH:lp L l)(hT:ci T l)(hp:cB p=true)(eC:ek L b=some (s,ids))
  (jF:(T.kN ⟨p,false,ids⟩ nb).isSome=false):gp ⟨L,l⟩ p b=none:=by
 have h1:=(put_eq nb hT<|abk hH.vh hp eC).1;rw[jF]at h1;have:dZ l ⟨p,false,ids⟩=none:=by simpa using h1.symm
 simp[gp,eC,this]
def o0 (L:List ao)(l:List aj)(p:Bs):Option o8:=(dZ l ⟨p,true,[]⟩).map<|fun t=>⟨L,t⟩
theorem afg {L:List ao}{l:List aj}(hu:lp L l){p:Bs}{t:List aj}(gI:dZ l ⟨p,true,[]⟩=some t):lp L t∧∀a,eb t a=eb l a:=by
 obtain⟨_,ht,hx,tC⟩:=J_ gI
 have de:∀y,y ∈ l→y.path≠p:=fun y hy hp=>by
  have:=Gx hu.vt.d_ (x:=⟨p,true,[]⟩) hy hp (by simp);rw[this]at gI;cases gI
 have l8:t.Perm (⟨p,true,[]⟩::l):=by
  have h:=tC;rw[filter_none de]at h;exact h
 have hc:∀a,eb t a=eb l a:=fun a=>by rw[uJ l8,pS];simp[fs]
 refine⟨⟨hu.vh,ht,fun x hx=>?_,fun a=>by rw[hc];exact hu.le a⟩,hc⟩;rcases List.mem_cons.1 (l8.mem_iff.1 hx) with rfl|h
 ·exact zM (by simp) (by simp)
 ·exact hu.ids x h
theorem afd {L:List ao}{l:List aj}{T:Nd}{p:Bs}{nb:Nat}{T':Nd}(hH:lp L l)(hT:ci T l)(hp:cB p=true)(jF:T.kN ⟨p,true,[]⟩ nb=some T'):∃t,dZ l ⟨p,true,[]⟩=some t∧ci T' t∧lp L t:=by
 have hx:fB ⟨p,true,[]⟩=true:=by simp[fB,hp]
 obtain⟨h1,h2⟩:=put_eq nb hT hx;rw[jF]at h1;obtain⟨t,ht⟩:=Option.isSome_iff_exists.1 h1.symm;have w9:=h2 T' jF;rw[ht]at w9;exact⟨t,ht,w9,(afg hH ht).1⟩
theorem aff {l:List aj}{p:Bs}(hp:cB p=false):dZ l ⟨p,true,[]⟩=none:=by simp[dZ,fB,hp]
theorem afe {l:List aj}{T:Nd}{p:Bs}{nb:Nat}(hT:ci T l)(hp:cB p=true)(jF:(T.kN ⟨p,true,[]⟩ nb).isSome=false):dZ l ⟨p,true,[]⟩=none:=by
 have h1:=(put_eq nb hT (x:=⟨p,true,[]⟩)<|by simp[fB,hp]).1;rw[jF]at h1;simpa using h1.symm
def n4 (L:List ao)(l:List aj)(p:Bs):Option (List Int):=match gv l p with
 | []=>none
 | o::_=>some<|load L o.ids
def qt (L:List ao)(t:Nd)(p:Bs):Option (List Int):=match t.find p with
 | none=>none
 | some d=>if d.dir then none else if dh L d.ids then some (load L d.ids) else none
theorem aaK {L:List ao}{l:List aj}{T:Nd}(dy:∀x,x ∈ l→dh L x.ids=true)(hT:ci T l)(p:Bs):qt L T p=n4 L l p:=by
 have eI:=yy hT p;unfold qt n4 gv;cases hf:T.find p with
 | none =>
  rw[hf]at eI;cases e:cD l p with
  | none=>rfl
  | some i =>
   rw[e]at eI;simp only[Option.map_none,Option.bind_some]at eI;simp only[←eI]
 | some d =>
  rw[hf]at eI;cases e:cD l p with
  | none=>rw[e]at eI;simp at eI
  | some i =>
   rw[e]at eI;simp only[Option.map_some,Option.bind_some]at eI;have:=dy _<|List.mem_of_getElem? eI.symm;simp only at this;simp only[←eI];cases hd:d.dir<;>simp[this]
def lK (L:List ao)(l:List aj)(p:Bs):Option o8:=match im l p with
 | none=>none
 | some t=>some ⟨(fo L<|((cD l p).bind<|fun i=>l[i]?).map (·.ids) |>.getD []).getD [],t⟩
theorem LK {l t:List aj}{p:Bs}(h:im l p=some t):VT l∧VT t∧∃x,x ∈ l∧x.path=p∧(cD l p).bind (fun i=>l[i]?)=some x∧l.Perm (x::t):=by
 unfold im at h;split at h
 ·rename_i hv;have hv:=jI.1 hv;cases e:cD l p with
  | none=>simp[e]at h
  | some i =>
   simp only[e]at h;split at h
   ·rename_i hp;simp only[Option.some.injEq]at h;subst h;obtain⟨x,h1,h2⟩:=(kx hv.d_ (p:=p)).1 i e;refine⟨hv,jI.1 hp,x,List.mem_of_getElem? h1,h2,by simp[h1],?_⟩;have:=Hy h1
    rwa [List.eraseIdx_eq_take_drop_succ]at this
   ·cases h
 ·cases h
theorem UG {L:List ao}{l:List aj}(hu:lp L l){p:Bs}{t:List aj}(gI:im l p=some t) :
  ∃x s',x ∈ l∧(cD l p).bind (fun i=>l[i]?)=some x∧fo L x.ids=some s'∧lK L l p=some ⟨s',t⟩∧lp s' t∧l.Perm (x::t)∧∀a,us s' a=us L a-(fs a x.ids:Int)∧(0<us s' a→dR s' a=dR L a):=by
 obtain⟨_,ht,x,hx,hxp,vR,tC⟩:=LK gI;have hc:∀a,eb l a=fs a x.ids+eb t a:=fun a=>by rw[uJ tC,pS]
 obtain⟨s',g1,g2,g3⟩:=Ma hu.vh (hu.ids x hx) (fun a=>by have:=hu.le a;have:=hc a;omega);have hle:∀a,(eb t a:Int)≤us s' a:=fun a=>by have:=hu.le a;have:=hc a;have:=(g3 a).1;omega
 refine⟨x,s',hx,vR,g1,by simp[lK,gI,vR,g1],⟨g2,ht,fun y hy=>?_,hle⟩,tC,g3⟩;refine BI hu.vh g2 (fun a ha=>?_) (hu.ids y<|tC.mem_iff.2<|by simp[hy]);have h1:=yq hy a;have h2:=uI.2 ha;have h3:=hle a;exact⟨by omega,(g3 a).2<|by omega⟩
theorem afm {L:List ao}{l:List aj}{T:Nd}{p:Bs}{T' d:Nd}(hH:lp L l)(hT:ci T l)(hd:T.find p=some d)(l6:T.mh p=some T') :
  ∃s' t,fo L d.ids=some s'∧lK L l p=some ⟨s',t⟩∧ci T' t∧lp s' t:=by
 obtain⟨h1,h2⟩:=drop_eq hT p;rw[l6]at h1;obtain⟨t,ht⟩:=Option.isSome_iff_exists.1 h1.symm;have w9:=h2 T' l6;rw[ht]at w9;obtain⟨x,s',_,vR,g1,g2,g3,_⟩:=UG hH ht;have eI:=yy hT p;rw[hd,vR]at eI;simp only[Option.map_some,Option.some.injEq]at eI;subst eI;exact⟨s',t,g1,g2,w9,g3⟩
theorem LI {L:List ao}{l:List aj}{T:Nd}{p:Bs}(hT:ci T l)(h:T.find p=none):lK L l p=none:=by
 have eI:=yy hT p;rw[h]at eI;unfold lK;cases e:im l p with
 | none=>rfl
 | some t =>
  obtain⟨_,_,x,_,_,vR,_⟩:=LK e;rw[vR]at eI;cases eI
theorem LJ {L:List ao}{l:List aj}{T:Nd}{p:Bs}(hT:ci T l)(h:(T.mh p).isSome=false):lK L l p=none:=by
 have h1:=(drop_eq hT p).1;rw[h]at h1;have:im l p=none:=by simpa using h1.symm
 simp[lK,this]
end Sp
namespace Fw
open Go
def R1 (v v':Value):Prop:=v'=v∨∃p q,v= .int .i64 p∧v'= .int .i64 q∧dH q
def GY (G G':PH):Prop:=∀b o v,oe G b o v→∃v',oe G' b o v'∧R1 v v'
def RL:List Value→List Value→Prop
 | [],[]=>True
 | v::r,v'::r'=>R1 v v'∧RL r r'
 | _,_=>False
theorem RL.len:∀{a b:List Value},RL a b→b.length=a.length
 | [],[],_=>rfl
 | _::_,_::_,h=>by simp[RL.len h.2]
 | [],_::_,h=>h.elim
 | _::_,[],h=>h.elim
theorem aar {G G':PH}(h:GY G G'):∀(cs:List Value) (b o:Nat),fw G b o cs→∃eR,fw G' b o eR∧RL cs eR
 | [],b,o,_=>⟨[],by intro j v h;simp at h,trivial⟩
 | c::r,b,o,hr=>by
  obtain⟨c',h1,h2⟩:=h b o c (by simpa using hr 0 c rfl)
  obtain⟨r',h3,h4⟩:=aar h r b (o+1) (fun j v hv=>by
   have:=hr (j+1) v (by simpa using hv)
   rwa [show o+1+j=o+(j+1) by omega])
  refine⟨c'::r',fun j v hv=>?_,h2,h4⟩;cases j with
  | zero=>simp at hv;subst hv;simpa using h1
  | succ j =>
   have:=h3 j v (by simpa using hv)
   rwa [show o+(j+1)=o+1+j by omega]
class wJ {α:Type} (E:PH→α→List Value→Prop):Prop where
 st:∀{G G':PH} {x:α} {cs eR:List Value},GY G G'→RL cs eR→E G x cs→∃x',E G' x' eR
theorem aU.st {α:Type}{lim:Nat}{E:PH→α→List Value→Prop} [wJ E] {sz:Nat}{G G':PH}{v:Value}{xs:List α}(hg:GY G G')(h:aU lim E sz G v xs):∃bA,bA.length=xs.length∧aU lim E sz G' v bA:=by
 obtain⟨a,c,rfl,h2,h3,h4⟩:=h;rcases h4 with rfl|⟨b,o,rfl,h5⟩
 ·exact⟨[],rfl,a,c,rfl,h2,h3,.inl rfl⟩
 ·have key:∀n,n≤xs.length→∃bA:List α,bA.length=n∧∀i x,bA[i]? = some x→∃cs,cs.length=sz∧E G' x cs∧fw G' b (o+i*sz) cs:=by
   intro n;induction n with
   | zero=>intro _;exact⟨[],rfl,by simp⟩
   | succ n ih =>
    intro hn;obtain⟨bA,k1,k2⟩:=ih (by omega);obtain⟨cs,c1,c2,c3⟩:=h5 n xs[n] (by simp);obtain⟨eR,d1,d2⟩:=aar hg cs _ _ c3;obtain⟨x',Fx⟩:=wJ.st hg d2 c2;refine⟨bA++[x'],by simp[k1],fun i x hx=>?_⟩;by_cases hi:i<n
    ·rw[List.getElem?_append_left<|by omega]at hx;exact k2 i x hx
    ·rw[List.getElem?_append_right<|by omega]at hx;have:i=n:=by
      have:=(List.getElem?_eq_some_iff.1 hx).1;simp at this;omega
     subst this;simp[k1]at hx;subst hx;exact⟨eR,by rw[d2.len];exact c1,Fx,d1⟩
  obtain⟨bA,k1,k2⟩:=key xs.length<|Nat.le_refl _;exact⟨bA,k1,some ⟨b,o,none⟩,c,by rw[k1],by omega,by omega,.inr ⟨b,o,rfl,k2⟩⟩
theorem B7 {p:Int}{v':Value}(h:R1 (.int .i64 p) v')(hp:dH p):∃q,v'= .int .i64 q∧dH q:=by
 rcases h with rfl|⟨_,q,_,rfl,hq⟩
 ·exact⟨p,rfl,hp⟩
 ·exact⟨q,rfl,hq⟩
theorem Kc {a:Option Addr}{m c:Nat}{v':Value}(h:R1 (.slice a m c) v'):v'= .slice a m c:=by
 rcases h with rfl|⟨_,_,h,_⟩
 ·rfl
 ·cases h
theorem Kd {s:Bs}{v':Value}(h:R1 (str s) v'):v'=str s:=by
 rcases h with rfl|⟨_,_,h,_⟩
 ·rfl
 ·cases h
theorem aaI {b:Bool}{v':Value}(h:R1 (.bool b) v'):v'= .bool b:=by
 rcases h with rfl|⟨_,_,h,_⟩
 ·rfl
 ·cases h
theorem rl1 {a:Value}{eR:List Value}(h:RL [a] eR):∃u,eR=[u]∧R1 a u:=by
 rcases eR with _|⟨u,_|⟨z,r⟩⟩
 ·exact h.elim
 ·exact⟨u,rfl,h.1⟩
 ·exact h.2.elim
theorem ard {G':PH}{x:Int}{eR:List Value}(hi:dH x)(hr:RL [.int .i64 x] eR):∃x',c8 G' x' eR:=by
 obtain⟨u,rfl,k1⟩:=rl1 hr;obtain⟨q,rfl,hq⟩:=B7 k1 hi;exact⟨q,rfl,hq⟩
instance:wJ c8:=⟨fun {_ _ x cs eR} _ hr h=>by
 obtain⟨h1,h2⟩:=h;rw[h1]at hr;exact ard h2 hr⟩
theorem Kf {a b c:Value}{eR:List Value}(h:RL [a,b,c] eR):∃u v w,eR=[u,v,w]∧R1 a u∧R1 b v∧R1 c w:=by
 rcases eR with _|⟨u,_|⟨v,_|⟨w,_|⟨z,r⟩⟩⟩⟩
 ·exact h.elim
 ·exact h.2.elim
 ·exact h.2.2.elim
 ·exact⟨u,v,w,rfl,h.1,h.2.1,h.2.2.1⟩
 ·exact h.2.2.2.elim
theorem aiN {G G':PH}{x:ao}{a:Option Addr}{m c:Nat}{u v w:Value}(hg:GY G G')(h1:dH x.id)(h2:dv G (.slice a m c) x.bytes)(h3:dH x.bh)
  (k1:R1 (.int .i64 x.id) u) (k2:R1 (.slice a m c) v) (k3:R1 (.int .i64 x.bh) w):∃x',dx G' x' [u,v,w]:=by
 obtain⟨p,rfl,hp⟩:=B7 k1 h1;obtain⟨q,rfl,hq⟩:=B7 k3 h3;have e:=Kc k2;subst e;obtain⟨ys,_,hy⟩:=aU.st hg h2;exact⟨⟨p,ys,q⟩,a,m,c,rfl,hp,hy,hq⟩
instance:wJ dx:=⟨fun {_ _ x cs eR} hg hr h=>by
 obtain⟨a,m,c,rfl,h1,h2,h3⟩:=h;obtain⟨u,v,w,rfl,k1,k2,k3⟩:=Kf hr;exact aiN hg h1 h2 h3 k1 k2 k3⟩
instance:wJ dn:=⟨fun {_ _ x cs eR} hg hr h=>by
 obtain⟨a,m,c,rfl,h1,h2⟩:=h;obtain⟨u,v,w,rfl,k1,k2,k3⟩:=Kf hr;obtain rfl:=Kd k1;obtain rfl:=aaI k2;obtain rfl:=Kc k3;obtain⟨ys,_,hy⟩:=h2.st hg;exact⟨⟨x.path,x.dir,ys⟩,a,m,c,rfl,h1,hy⟩⟩
section
variable {w0 w:World} {G0 G:PH} {S:List Nat} {B:List aW}
end
section ops
variable {P:Program} {n:Nat} {ops:Array Oper} {Q:dp} {rest:List Oper} {L:br} {ds:List Deferred} {w w0:World} {G0:PH} {S:List Nat} {G:PH} {B:List aW}
variable {ty:TypeId} {ps:String} {af:Array Edge}
end ops
def Ci (w0:World)(G:PH)(v:Value):Prop:=∀b o m c,v= .slice (some ⟨b,o,none⟩) m c→w0.heap.size≤b∧∃l e,G b=some (cl l e)
theorem Ci.up {w0:World}{G G':PH}{v:Value}(h:Ci w0 G v)(hle:an G G'):Ci w0 G' v:=fun b o m c e=>by
 obtain⟨h1,l,e,h2⟩:=h b o m c e;exact⟨h1,l,e,hle _ _ h2⟩
theorem Ci.nil {w0:World}{G:PH}:Ci w0 G (.slice none 0 0):=fun b o m c e=>by simp at e
section
variable {w0 w:World} {G0 G:PH} {B:List aW}
end
section ops
variable {P:Program} {n:Nat} {ops:Array Oper} {Q:dp} {rest:List Oper} {L:br} {ds:List Deferred} {w w0:World} {G0:PH} {S:List Nat} {G:PH} {B:List aW}
variable {ty:TypeId} {ps:String} {af:Array Edge}
end ops
theorem an.none {G:PH}:an (fun _=>none) G:=fun _ _ h=>by cases h
section ops
variable {P:Program} {n:Nat} {ops:Array Oper} {Q:dp} {rest:List Oper} {L:br} {ds:List Deferred} {w:World} {ty:TypeId} {ps:String} {af:Array Edge}
end ops
end Fw
