/- Part 3 of the proof: the program logic and plain functions. Conditions: none. -/
import Derived.Test.YtcagigfnblfnkaaGreatDoorG02
import Derived.Maps.RangeRun
import Derived.Laws.StructEq
import Derived.Laws.OwnMore
import Derived.WalkSpells
import Derived.Lib.Bytealg
set_option linter.all false
set_option maxRecDepth 100000
set_option maxHeartbeats 8000000
namespace Sp
open Fw
def ff (n lo hi:Int):Bool:=decide (lo≤n)&&decide (n≤hi)
def low (c:UInt8):Bool:=decide (97≤c.toNat)&&decide (c.toNat≤122)
def ep (s:Bs):Bool:=s.all low&&decide (1≤s.length)&&decide (s.length≤5)
def iH (a b:List Int):Bool:=decide (a=b)
def bZ (l:List ao)(id:Int):Option Nat:=l.findIdx?<|fun h=>decide (h.id=id)
def dV:Option Nat→Int
 | some i=>i
 | none=> -1
def BP (l:List ao)(id:Int):Int:=dV<|bZ l id
theorem lV {α:Type}{p:α→Bool}{l:List α}{k:Nat}{c:α}(h:(l.take k).all p=true)(hc:l[k]? = some c)(hp:p c=true):(l.take<|k+1).all p=true:=by
 rw[List.take_add_one,hc];simp only[List.all_append,h,Option.toList_some,List.all_cons,hp,List.all_nil,Bool.and_self]
theorem all_false {α:Type}{p:α→Bool}{l:List α}{k:Nat}{c:α}(hc:l[k]? = some c)(hp:p c=false):l.all p=false:=by
 rw[List.all_eq_false];exact⟨c,List.mem_of_getElem? hc,by simp[hp]⟩
theorem JQ {α:Type}{p:α→Bool}{l:List α}{k:Nat}{c:α}(h:∀j,j<k→∀y,l[j]? = some y→p y=false)(hc:l[k]? = some c)(hp:p c=false):∀j,j<k+1→∀y,l[j]? = some y→p y=false:=by
 intro j hj y hy;rcases Nat.lt_or_ge j k with h'|h'
 ·exact h j h' y hy
 ·obtain rfl:j=k:=by omega
  rw[hc]at hy;simp only[Option.some.injEq]at hy;exact hy▸hp
theorem wV {α:Type}{p:α→Bool}{l:List α}{k:Nat}{c:α}(h:∀j,j<k→∀y,l[j]? = some y→p y=false)(hc:l[k]? = some c)(hp:p c=true):l.findIdx? p=some k:=by
 rw[List.findIdx?_eq_some_iff_getElem];obtain⟨hk,he⟩:=List.getElem?_eq_some_iff.1 hc;refine⟨hk,by rw[he];exact hp,fun j hj=>?_⟩;have:=h j hj l[j] (by simp);simp[this]
theorem HI {α:Type}{p:α→Bool}{l:List α}{k:Nat}(h:∀j,j<k→∀y,l[j]? = some y→p y=false)(hk:l.length≤k):l.findIdx? p=none:=by
 rw[List.findIdx?_eq_none_iff];intro x hx;obtain⟨j,hj⟩:=List.getElem?_of_mem hx;exact h j (by have:=(List.getElem?_eq_some_iff.1 hj).1;omega) x hj
theorem Ah {α:Type}{a b:List α}{k:Nat}{x:α}(h:a.take k=b.take k)(ha:a[k]? = some x)(hb:b[k]? = some x):a.take (k+1)=b.take (k+1):=by
 rw[List.take_add_one,List.take_add_one,h,ha,hb]
theorem ZP {a b:List Int}(h:a.length≠b.length):false=decide (a=b):=by
 symm;simp only[decide_eq_false_iff_not];intro e;exact h (by rw[e])
theorem ZO {a b:List Int}{k:Nat}{x y:Int}(ha:a[k]? = some x)(hb:b[k]? = some y)(h:x≠y):false=decide (a=b):=by
 symm;simp only[decide_eq_false_iff_not];intro e;rw[e,hb]at ha;simp at ha;exact h ha.symm
theorem UK {a b:List Int}{k:Nat}(h:a.take k=b.take k)(h1:a.length≤k)(h2:b.length≤k):true=decide (a=b):=by
 rw[List.take_of_length_le h1,List.take_of_length_le h2]at h;simp[h]
theorem Au {n:Nat}{p:Nat→Bool}(h:∀j,j<n→p j=true):(List.range n).all p=true:=by
 rw[List.all_eq_true];intro j hj;exact h j (by simpa using hj)
theorem mJ {n k:Nat}{p:Nat→Bool}(hk:k<n)(h:p k=false):(List.range n).all p=false:=by
 rw[List.all_eq_false];exact⟨k,by simpa using hk,by simp[h]⟩
theorem rv {p:Nat→Bool}{k:Nat}(h:∀j,j<k→p j=true)(hk:p k=true):∀j,j<k+1→p j=true:=by
 intro j hj;rcases Nat.lt_or_ge j k with h'|h'
 ·exact h j h'
 ·obtain rfl:j=k:=by omega
  exact hk
theorem gZ {α:Type}{l:List α}{k:Nat}{x:α}(h:l[k]? = some x):l.take (k+1)=l.take k++[x]:=by
 rw[List.take_add_one,h];rfl
def mS (b:Int):Bool:=ff b 0 255
def fV (l:List Int):Bool:=l.all mS&&ff l.length 1 8
def jz (l:List Int):Bool:=l.all mS&&decide (l.length≤32)
abbrev lt (a b:Bs):Bool:=Go.Op.bytesLess a b
def cut:Bs→List Bs
 | []=>[[]]
 | c::r=>if c=47 then[]::cut r else match cut r with
  | []=>[[c]]
  | w::ws=>(c::w)::ws
theorem lx:∀s,cut s≠[]
 | []=>by simp[cut]
 | c::r=>by
  simp only[cut];split
  ·simp
  ·split<;>simp
theorem Uo:∀(s:Bs),(∀c,c ∈ s→c≠47)→cut s=[s]
 | [],_=>rfl
 | c::r,h=>by
  simp only[cut];rw[if_neg<|h c<|by simp,Uo r<|fun d hd=>h d<|by simp[hd]]
theorem Uq:∀(a b:Bs),(∀c,c ∈ a→c≠47)→cut (a++47::b)=a::cut b
 | [],b,_=>by simp[cut]
 | c::r,b,h=>by
  simp only[List.cons_append,cut];rw[if_neg<|h c<|by simp,Uq r b<|fun d hd=>h d<|by simp[hd]]
def cB (s:Bs):Bool:=(cut s).all ep&&decide ((cut s).length≤4)
def lL (s:Bs)(o:Option Nat)(i:Nat):Option Nat:=if s[i]? = some 47 then some i else o
def Q8 (s:Bs):Option Nat:=(List.range s.length).foldl (lL s) none
theorem JC (s:Bs)(k:Nat):(List.range<|k+1).foldl (lL s) none=lL s ((List.range k).foldl (lL s) none) k:=by
 rw[List.range_succ,List.foldl_append];rfl
theorem Zl (s:Bs):∀k i,(List.range k).foldl (lL s) none=some i→i<k
 | 0,i,h=>by simp at h
 | k+1,i,h=>by
  rw[JC]at h;unfold lL at h;split at h
  ·simp at h;omega
  ·have:=Zl s k i h;omega
def BO (s:Bs):Int:=dV<|Q8 s
theorem arM (s:Bs): -1≤BO s∧BO s≤s.length:=by
 unfold BO;cases h:Q8 s with
 | none=>simp[dV]
 | some i =>
  have:=Zl s s.length i h;simp only[dV];omega
theorem YM {c:UInt8}(h:(c.toNat:Int)=47):c=47:=by
 apply UInt8.toNat_inj.1;simp only[UInt8.reduceToNat];omega
theorem ZQ {c:UInt8}(h:¬(c.toNat:Int)=47):¬(some c=some (47:UInt8)):=by
 intro e;simp at e;subst e;simp at h
def pz (s:Bs):Bs:=s.take (max (BO s) 0).toNat
theorem ar0 (s:Bs):(pz s).length≤s.length:=by unfold pz;simp;omega
theorem jh {s:Bs}(h:s.length≤16777216):(pz s).length≤16777216:=Nat.le_trans (ar0 s) h
def cD (l:List aj)(p:Bs):Option Nat:=l.findIdx?<|fun x=>decide (x.path=p)
def iS (l:List aj)(p:Bs):Int:=dV<|cD l p
def v7 (l:List aj)(p:Bs):Bool:=decide (pz p=[])||match cD l (pz p) with
 | some i=>match l[i]? with
  | some x=>x.dir
  | none=>false
 | none=>false
theorem oh {α:Type}{p:α→Bool}{l:List α}(h:0≤dV (l.findIdx? p)):∃(i:Nat) (x:α),l.findIdx? p=some i∧dV (l.findIdx? p)=(i:Int)∧i<l.length∧l[i]? = some x∧p x=true:=by
 cases e:l.findIdx? p with
 | none=>simp[e,dV]at h
 | some i =>
  obtain⟨h1,h2,_⟩:=List.findIdx?_eq_some_iff_getElem.1 e;exact⟨i,l[i],rfl,rfl,h1,by simp,h2⟩
theorem oo {α:Type}{p:α→Bool}{l:List α}(h:dV (l.findIdx? p)<0):l.findIdx? p=none:=by
 cases e:l.findIdx? p with
 | none=>rfl
 | some i=>simp only[e,dV]at h;omega
def kJ (dir:Bool)(id:Int):Bool:= !dir&&ff id 1 99
def fB (x:aj):Bool:=x.ids.all (kJ x.dir)&&(cB x.path&&decide (x.ids.length≤4))
def sH (l:List aj)(i:Nat)(x:aj):Bool:=decide (i=0)||match l[i-1]? with
 | some y=>lt y.path x.path
 | none=>true
def J0 (l:List aj)(i:Nat):Bool:=match l[i]? with
 | none=>true
 | some x=>fB x&&sH l i x&&v7 l x.path
theorem wk {l:List aj}{k:Nat}{x:aj}(h:l[k]? = some x):J0 l k=(fB x&&sH l k x&&v7 l x.path):=by simp[J0,h]
def cU (l:List aj):Bool:=(List.range l.length).all (J0 l)&&decide (l.length≤12)
def n0 (l:List ao)(i:Nat)(h:ao):Bool:=decide (i=0)||match l[i-1]? with
 | some g=>decide (g.id<h.id)
 | none=>true
def rk (l:List ao)(i:Nat):Bool:=match l[i]? with
 | none=>true
 | some h=>ff h.id 1 99&&fV h.bytes&&ff h.bh 1 999&&n0 l i h&&(l.take i).all (fun g=> !iH g.bytes h.bytes)
theorem nZ {l:List ao}{k:Nat}{h:ao}(e:l[k]? = some h):rk l k=(ff h.id 1 99&&fV h.bytes&&ff h.bh 1 999&&n0 l k h&&(l.take k).all (fun g=> !iH g.bytes h.bytes)):=by simp[rk,e]
def fg (l:List ao):Bool:=(List.range l.length).all (rk l)&&decide (l.length≤16)
def kf (l:List ao)(b:List Int):Option Nat:=l.findIdx?<|fun h=>iH h.bytes b
def fc (l:List cG)(n:Bs):Option Nat:=l.findIdx?<|fun x=>decide (x.name=n)
def jx (l:List cG)(n:Bs):Int:=dV<|fc l n
def Q4 (l:List ao)(b:List Int):Int:=dV<|kf l b
def iA (l:List ao):Nat:=(List.range<|l.length+1).findIdx (fun j:Nat=>(bZ l<|(j:Int)+1).isNone)+1
def ri (l:List ao)(b:List Int):List ao :=
 l.takeWhile (fun h=>decide (h.id≤(iA l:Int)))++⟨iA l,b,1⟩::l.dropWhile (fun h=>decide (h.id≤(iA l:Int)))
theorem pig:∀(n:Nat) (l:List Int),(∀j:Nat,j<n→((j:Int)+1) ∈ l)→n≤l.length
 | 0,l,_=>by omega
 | n+1,l,h=>by
  have hm:=h n (by omega)
  have:=pig n (l.erase<|(n:Int)+1) (fun j hj=>by
   refine(List.mem_erase_of_ne ?_).2 (h j<|by omega);omega)
  rw[List.length_erase_of_mem hm]at this;have:0<l.length:=List.length_pos_of_mem hm;omega
theorem sU {l:List ao}{id:Int}(h:(bZ l id).isSome=true):id ∈ l.map (·.id):=by
 unfold bZ at h;rw[List.findIdx?_isSome]at h;obtain⟨x,hx,hp⟩:=List.any_eq_true.1 h;exact List.mem_map.2 ⟨x,hx,by simpa using hp⟩
theorem CQ {l:List ao}{k:Nat}(h:∀j:Nat,j<k→(bZ l<|(j:Int)+1).isSome=true):k≤l.length:=by
 have:=pig k (l.map (·.id))<|fun j hj=>sU<|h j hj;simpa using this
theorem Ve {l:List ao}{k:Nat}(h:∀j:Nat,j<k→(bZ l<|(j:Int)+1).isSome=true)(hk:(bZ l<|(k:Int)+1).isSome=false):iA l=k+1:=by
 have hl:=CQ h;unfold iA;congr 1;rw[List.findIdx_eq<|by simp;omega];simp only[List.getElem_range];refine⟨by simpa using hk,fun j hj=>?_⟩;have:=h j hj;simpa using this
theorem HM (l:List ao):1≤iA l∧iA l≤l.length+1:=by
 unfold iA;refine⟨by omega,?_⟩;by_cases h:∀j:Nat,j<l.length+1→(bZ l<|(j:Int)+1).isSome=true
 ·have:=CQ h;omega
 ·simp only[Classical.not_forall]at h;obtain⟨j,hj,hn⟩:=h;have:(List.range<|l.length+1).findIdx (fun j:Nat=>(bZ l<|(j:Int)+1).isNone)<(List.range<|l.length+1).length:=List.findIdx_lt_length_of_exists ⟨j,by simpa using hj,by simpa using hn⟩;simp at this;omega
theorem arf {α:Type}{p:α→Bool}{l:List α}(h:0≤dV (l.findIdx? p)):(l.findIdx? p).isSome=true:=by
 cases e:l.findIdx? p with
 | none=>simp[e,dV]at h
 | some i=>rfl
theorem are {α:Type}{p:α→Bool}{l:List α}(h:dV (l.findIdx? p)<0):(l.findIdx? p).isSome=false:=by
 rw[oo h];rfl
def bump (l:List ao)(i:Nat)(d:Int):List ao:=match l[i]? with
 | some h=>l.set i ⟨h.id,h.bytes,h.bh+d⟩
 | none=>l
theorem wO {l:List ao}{i:Nat}{h:ao}(e:l[i]? = some h)(d:Int):bump l i d=l.set i ⟨h.id,h.bytes,h.bh+d⟩:=by simp[bump,e]
def gN (l:List ao)(b:List Int):Option (List ao×Int) :=
 if fg l&&fV b then
  match kf l b with
  | some i=>if fg (bump l i 1) then some (bump l i 1,((l[i]?).map (·.id)).getD 0) else none
  | none=>if fg (ri l b) then some (ri l b,(iA l:Int)) else none
 else none
def fa (l:List ao)(id:Int):Option (List ao) :=
 if fg l then
  match bZ l id with
  | some i=>if (l[i]?).map (·.bh)=some 999 then none else some<|bump l i 1
  | none=>none
 else none
def il (l:List ao)(id:Int):Option (List ao) :=
 if fg l then
  match bZ l id with
  | some i=>if (l[i]?).map (·.bh)=some 1 then some (l.take i++l.drop (i+1)) else some<|bump l i<|-1
  | none=>none
 else none
theorem pc {α:Type}{l:List α}{k:Nat}{z:α}(hz:l[k]? = some z):l.drop k=z::l.drop (k+1):=by
 obtain⟨h1,h2⟩:=List.getElem?_eq_some_iff.1 hz;rw[List.drop_eq_getElem_cons h1,h2]
theorem abU {α:Type}{F:α→Bool}:∀{l:List α} {k:Nat} {z:α},(l.take k).all F=true→l[k]? = some z→F z=false→l.takeWhile F=l.take k∧l.dropWhile F=l.drop k
 | [],k,z,_,hz,_=>by simp at hz
 | x::r,0,z,_,hz,hF=>by simp at hz;subst hz;simp[List.takeWhile_cons,List.dropWhile_cons,hF]
 | x::r,k+1,z,h,hz,hF=>by
  simp only[List.take_succ_cons,List.all_cons,Bool.and_eq_true]at h;obtain⟨h1,h2⟩:=abU h.2 (by simpa using hz) hF;simp[List.takeWhile_cons,List.dropWhile_cons,h.1,h1,h2]
theorem abT {α:Type}{F:α→Bool}:∀{l:List α},l.all F=true→l.takeWhile F=l∧l.dropWhile F=[]
 | [],_=>by simp
 | x::r,h=>by
  simp only[List.all_cons,Bool.and_eq_true]at h;obtain⟨h1,h2⟩:=abT h.2;simp[List.takeWhile_cons,List.dropWhile_cons,h.1,h1,h2]
theorem arb {α:Type}{F:α→Bool}{l xs:List α}{X z:α}{k:Nat}(hx:xs=l.take k∧(l.take k).all F=true)(hz:l[k]? = some z)(hF:F z=false):((xs++[X])++[z])++l.drop (k+1)=l.takeWhile F++X::l.dropWhile F:=by
 obtain⟨h1,h2⟩:=abU hx.2 hz hF;rw[h1,h2,pc hz,hx.1];simp
theorem Jr {α:Type}{l xs ys:List α}{z:α}{k:Nat}(hx:xs++l.drop k=ys)(hz:l[k]? = some z):(xs++[z])++l.drop (k+1)=ys:=by
 rw[←hx,pc hz];simp
theorem ara {α:Type}{F:α→Bool}{l:List α}(X:α)(h:l.all F=true):l++[X]=l.takeWhile F++X::l.dropWhile F:=by
 obtain⟨h1,h2⟩:=abT h;rw[h1,h2]
def rc (l:List ao)(h:ao):Bool:=decide (h.id≤(iA l:Int))
theorem Jz (l:List ao)(b:List Int):ri l b=l.takeWhile (rc l)++(⟨(iA l:Int),b,1⟩:ao)::l.dropWhile (rc l):=rfl
theorem Zb (l:List ao)(b:List Int):(ri l b).length=l.length+1:=by
 have h:=List.takeWhile_append_dropWhile (p:=rc l) (l:=l);have:=congrArg List.length h;rw[Jz];rw[List.length_append]at this;rw[List.length_append,List.length_cons];omega
theorem TL (l:List ao)(i:Nat)(d:Int):(bump l i d).length=l.length:=by
 unfold bump;split<;>simp
theorem SU {l:List ao}{i:Nat}{x:ao}(h:fg l=true)(e:l[i]? = some x):(1≤x.id∧x.id≤99)∧(1≤x.bh∧x.bh≤999):=by
 simp only[fg,Bool.and_eq_true]at h;have:=List.all_eq_true.1 h.1 i (by simpa using (List.getElem?_eq_some_iff.1 e).1);rw[nZ e]at this;simp[ff]at this;omega
theorem GN {l:List ao}(h:fg l=true):l.length≤16:=by
 simp only[fg,Bool.and_eq_true]at h;simpa using h.2
def chunk (b:List Int)(k:Nat):List Int:=(b.drop<|8*k).take<|min (8*k+8) b.length-8*k
def kL (b:List Int):List (List Int):=(List.range<|(b.length+7) / 8).map<|chunk b
def ct {α β:Type}(f:α→β→Option α)(l:List β)(o:Option α):Option α:=l.foldl (fun o b=>o.bind<|fun a=>f a b) o
theorem qL {α β:Type}{f:α→β→Option α}{l:List β}{k:Nat}{b:β}{a a':α}{o:Option α}(h:ct f (l.take k) o=some a)(hb:l[k]? = some b)(hf:f a b=some a'):ct f (l.take<|k+1) o=some a':=by
 unfold ct at h ⊢;rw[gZ hb,List.foldl_append,h];simp[hf]
theorem rN {α β:Type}{f:α→β→Option α}:∀(l:List β),ct f l none=none
 | []=>rfl
 | b::r=>by
  have:=rN (f:=f) r;simpa [ct] using this
theorem rO {α β:Type}{f:α→β→Option α}{l:List β}{k:Nat}{b:β}{a:α}{o:Option α}(h:ct f (l.take k) o=some a)(hb:l[k]? = some b)(hf:f a b=none):ct f l o=none:=by
 have h2:=List.take_append_drop k l;rw[pc hb]at h2;rw[←h2];unfold ct at h ⊢;rw[List.foldl_append,h];simp only[List.foldl_cons,Option.bind_some,hf];exact rN _
theorem rL {α β:Type}{f:α→β→Option α}{l:List β}{k:Nat}{o x:Option α}(h:ct f (l.take k) o=x)(hk:l.length≤k):ct f l o=x:=by rw[←h,List.take_of_length_le hk]
def pF (s:List ao×List Int)(b:List Int):Option (List ao×List Int):=(gN s.1 b).map fun r=>(r.1,s.2++[r.2])
def ek (l:List ao)(b:List Int):Option (List ao×List Int):=if fg l&&jz b then ct pF (kL b) (some (l,[])) else none
def nW (l:List ao)(ids:List Int)(i:Nat):Bool:=match ids[i]? with
 | none=>true
 | some id=>match bZ l id with
  | none=>false
  | some j=>match l[j]? with
   | none=>false
   | some h=> !(decide (i+1<ids.length)&&decide (h.bytes.length<8))
def dh (l:List ao)(ids:List Int):Bool:=(List.range ids.length).all (nW l ids)&&decide (ids.length≤4)
def fo (l:List ao)(ids:List Int):Option (List ao):=if fg l&&dh l ids then ct il ids (some l) else none
theorem UE {l s:List ao}{id:Int}(h:il l id=some s):s.length≤l.length:=by
 unfold il at h;split at h
 ·split at h
  ·split at h
   ·simp only[Option.some.injEq]at h;subst h;simp;omega
   ·simp only[Option.some.injEq]at h;subst h;rw[TL];exact Nat.le_refl _
  ·cases h
 ·cases h
theorem YV {l s:List ao}{id:Int}(h:fa l id=some s):s.length=l.length:=by
 unfold fa at h;split at h
 ·split at h
  ·split at h
   ·cases h
   ·simp only[Option.some.injEq]at h;subst h;rw[TL]
  ·cases h
 ·cases h
theorem aay {l:List ao}{b:List Int}{r:List ao×Int}(h:gN l b=some r):r.1.length≤16:=by
 unfold gN at h;split at h
 ·split at h
  ·split at h
   ·rename_i h2;simp only[Option.some.injEq]at h;subst h;exact GN h2
   ·cases h
  ·split at h
   ·rename_i h2;simp only[Option.some.injEq]at h;subst h;exact GN h2
   ·cases h
 ·cases h
def eU (x:aj):Bool→List aj→List aj
 | d,[]=>if d then[] else[x]
 | d,y::r=>(if !d&& !lt y.path x.path then[x] else[])++((if y.path=x.path then[] else[y])++eU x (d|| !lt y.path x.path) r)
def iT (l:List aj)(x:aj):List aj:=eU x false l
theorem R7 (x:aj):∀(l:List aj),(eU x true l).length≤l.length
 | []=>by simp[eU]
 | y::r=>by
  have:=R7 x r;unfold eU;simp only[Bool.not_true,Bool.false_and,Bool.true_or,List.length_append,List.length_cons,Bool.false_eq_true,if_false,List.length_nil];split<;>simp<;>omega
theorem aaw (x:aj):∀(l:List aj) (d:Bool),(eU x d l).length≤l.length+1
 | [],d=>by unfold eU;split<;>simp
 | y::r,true=>by have:=R7 x<|y::r;omega
 | y::r,false=>by
  have h1:=aaw x r false;have h2:=R7 x r;unfold eU;rcases ef:lt y.path x.path with _|_
  ·simp only[Bool.not_false,Bool.and_self,if_true,Bool.false_or,List.length_append,List.length_cons,List.length_nil];split<;>simp<;>omega
  ·simp only[Bool.not_true,Bool.and_false,Bool.false_eq_true,if_false,Bool.false_or,List.length_append,List.length_cons,List.length_nil];split<;>simp<;>omega
theorem B0 {x z:aj}{r:List aj}{d:Bool}(hd:d=false)(hl:lt z.path x.path=false)(he:¬z.path=x.path):eU x d (z::r)=[x]++([z]++eU x true r):=by
 rw[eU,hd,hl,if_neg he];rfl
theorem B3 {x z:aj}{r:List aj}{d:Bool}(hd:d=false)(hl:lt z.path x.path=false)(he:z.path=x.path):eU x d (z::r)=[x]++eU x true r:=by
 rw[eU,hd,hl,if_pos he];rfl
theorem B4 {x z:aj}{r:List aj}{d:Bool}(hl:lt z.path x.path=true)(he:¬z.path=x.path):eU x d (z::r)=[z]++eU x d r:=by
 rw[eU,hl,if_neg he];simp
theorem B5 {x z:aj}{r:List aj}{d:Bool}(hl:lt z.path x.path=true)(he:z.path=x.path):eU x d (z::r)=eU x d r:=by
 rw[eU,hl,if_pos he];simp
theorem z_ {x z:aj}{r:List aj}{d:Bool}(hd:d=true)(he:¬z.path=x.path):eU x d (z::r)=[z]++eU x d r:=by
 rw[eU,hd,if_neg he];simp
theorem B6 {x z:aj}{r:List aj}{d:Bool}(hd:d=true)(he:z.path=x.path):eU x d (z::r)=eU x d r:=by
 rw[eU,hd,if_pos he];simp
theorem FX (l:List aj)(x:aj):(iT l x).length≤l.length+1:=aaw x l false
theorem gM {l:List aj}(h:cU l=true):l.length≤12:=by
 simp only[cU,Bool.and_eq_true]at h;simpa using h.2
def dZ (l:List aj)(x:aj):Option (List aj) :=
 if cU l&&fB x then
  if (match cD l x.path with |some i=>(match l[i]? with |some y=>y.dir||x.dir|none=>false)|none=>false) then none
  else if cU (iT l x) then some (iT l x) else none
 else none
def im (l:List aj)(p:Bs):Option (List aj) :=
 if cU l then
  match cD l p with
  | some i=>if cU (l.take i++l.drop (i+1)) then some (l.take i++l.drop (i+1)) else none
  | none=>none
 else none
def fs (id:Int)(ids:List Int):Nat:=ids.countP<|fun x=>decide (x=id)
def pb (l:List aj)(id:Int)(k:Nat):Nat:=((l.take k).map<|fun x=>fs id x.ids).sum
def qk (l:List aj)(id:Int):Nat:=pb l id l.length
theorem TX (id:Int)(ids:List Int):fs id ids≤ids.length:=List.countP_le_length
theorem Lo {id:Int}{ids:List Int}{k:Nat}{x:Int}(h:ids[k]? = some x):fs id (ids.take<|k+1)=fs id (ids.take k)+(if x=id then 1 else 0):=by
 rw[gZ h];simp only[fs,List.countP_append,List.countP_cons,List.countP_nil];simp
theorem Lq {l:List aj}{id:Int}{k:Nat}{x:aj}(h:l[k]? = some x):pb l id (k+1)=pb l id k+fs id x.ids:=by
 simp[pb,gZ h]
theorem SG {l:List aj}{k:Nat}{x:aj}(h:cU l=true)(e:l[k]? = some x):fB x=true∧x.ids.length≤4:=by
 simp only[cU,Bool.and_eq_true]at h;have:=List.all_eq_true.1 h.1 k (by simpa using (List.getElem?_eq_some_iff.1 e).1);rw[wk e]at this;simp only[Bool.and_eq_true]at this;refine⟨this.1.1,?_⟩;have:=this.1.1;simp[fB]at this;omega
theorem Lp {l:List aj}{id:Int}(h:cU l=true):∀k,k≤l.length→pb l id k≤4*k
 | 0,_=>by simp[pb]
 | k+1,hk=>by
  have h1:=Lp h k (by omega) (id:=id);rw[Lq (x:=l[k])<|by simp];have h2:=(SG h (k:=k) (x:=l[k])<|by simp).2;have h3:=TX id l[k].ids;omega
def HH (s:List ao)(x:aj):Bool:=dh s x.ids
def rh (s:List ao)(l:List aj):Bool:=l.all<|HH s
def gv (l:List aj)(p:Bs):List aj:=match cD l p with
 | some i=>(match l[i]? with
  | some x=>if x.dir then[] else[x]
  | none=>[])
 | none=>[]
def yz (s:List ao):List aj→List ao
 | []=>s
 | x::_=>(fo s x.ids).getD []
def gp (v:o8)(p:Bs)(b:List Int):Option o8:=match ek v.store b with
 | none=>none
 | some r=>match dZ v.tree ⟨p,false,r.2⟩ with
  | none=>none
  | some t=>some ⟨yz r.1<|gv v.tree p,t⟩
theorem CO {α β:Type}{f:α→β→Option α}{P:α→Prop}(hs:∀a b a',P a→f a b=some a'→P a'):∀(l:List β) (a r:α),P a→ct f l (some a)=some r→P r
 | [],a,r,h0,h=>by simp[ct]at h;exact h▸h0
 | b::t,a,r,h0,h=>by
  simp only[ct,List.foldl_cons,Option.bind_some]at h;cases e:f a b with
  | none =>
   rw[e]at h;have:=rN (f:=f) t;simp only[ct]at this;rw[this]at h;cases h
  | some a'=>rw[e]at h;exact CO hs t a' r (hs a b a' h0 e) h
theorem UU (l:List ao)(b:List Int):(((ek l b).map (·.1)).getD []).length≤16:=by
 cases e:ek l b with
 | none=>simp
 | some r =>
  unfold ek at e;split at e
  ·rename_i h;simp only[Bool.and_eq_true]at h
   have:=CO (P:=fun r:List ao×List Int=>r.1.length≤16) (f:=pF) (fun a b a' _ h2=>by
    simp only[pF,Option.map_eq_some_iff]at h2;obtain⟨p,h3,h4⟩:=h2;have:=aay h3;rw[←h4];exact this) _ _ _ (by exact GN h.1) e
   simpa using this
  ·cases e
theorem Y5 {v:o8}{p:Bs}{b:List Int}(h:(ek v.store b).isSome=false):gp v p b=none:=by
 have:ek v.store b=none:=by simpa using h
 simp[gp,this]
theorem arB {v:o8}{p:Bs}{b:List Int}(h:(dZ v.tree ⟨p,false,((ek v.store b).map (·.2)).getD []⟩).isSome=false):gp v p b=none:=by
 unfold gp;cases e:ek v.store b with
 | none=>rfl
 | some r =>
  rw[e]at h;have:dZ v.tree ⟨p,false,r.2⟩=none:=by simpa using h
  simp[this]
theorem Y6 {v:o8}{p:Bs}{b:List Int}(h1:(ek v.store b).isSome=true)(h:(dZ v.tree ⟨p,false,((ek v.store b).map (·.2)).getD []⟩).isSome=true) :
  gp v p b=some ⟨yz (((ek v.store b).map (·.1)).getD [])<|gv v.tree p,(dZ v.tree ⟨p,false,((ek v.store b).map (·.2)).getD []⟩).getD []⟩:=by
 unfold gp;obtain⟨r,e⟩:=Option.isSome_iff_exists.1 h1;rw[e]at h ⊢;simp only[Option.map_some,Option.getD_some]at h ⊢;obtain⟨t,e2⟩:=Option.isSome_iff_exists.1 h;rw[e2];rfl
theorem aga {s:List ao}{l:List aj}{x:aj}(h:l[0]? = some x):yz s l=(fo s x.ids).getD []:=by
 cases l with
 | nil=>simp at h
 | cons y r=>simp at h;rw[h];rfl
theorem agc {s:List ao}{l:List aj}(h:l.length≤0):yz s l=s:=by
 have:l=[]:=List.eq_nil_of_length_eq_zero (by omega);rw[this];rfl
def rG (l:List cG)(id:Int)(k:Nat):Nat:=((l.take k).map<|fun s=>qk s.tree id).sum
def FV (d:aK)(id:Int):Nat:=qk d.tree id+rG d.aw id d.aw.length
theorem TZ {l:List cG}{id:Int}{k:Nat}{x:cG}(h:l[k]? = some x):rG l id (k+1)=rG l id k+qk x.tree id:=by
 simp[rG,gZ h]
theorem Jw {l:List aj}{id:Int}(h:cU l=true):qk l id≤48:=by
 have h1:=Lp h l.length (Nat.le_refl _) (id:=id);have h2:=gM h;unfold qk;omega
theorem TY {l:List cG}{id:Int}(h:∀s,s ∈ l→cU s.tree=true):∀k,k≤l.length→rG l id k≤48*k
 | 0,_=>by simp[rG]
 | k+1,hk=>by
  have h1:=TY h k (by omega) (id:=id);rw[TZ (x:=l[k])<|by simp];have h2:=Jw (id:=id) (h l[k]<|by simp);omega
def Gh (d:aK)(i:Nat):Bool:=match d.aw[i]? with
 | none=>true
 | some s=>ep s.name&&decide ((i:Int)≤jx d.aw s.name)&&cU s.tree&&rh d.store s.tree
theorem wj {d:aK}{k:Nat}{x:cG}(h:d.aw[k]? = some x):Gh d k=(ep x.name&&decide ((k:Int)≤jx d.aw x.name)&&cU x.tree&&rh d.store x.tree):=by simp[Gh,h]
def sB (d:aK):Bool:=(List.range d.aw.length).all (Gh d)&&decide (d.aw.length≤6)
theorem avD {d:aK}(h:sB d=true):d.aw.length≤6∧∀s,s ∈ d.aw→cU s.tree=true:=by
 simp only[sB,Bool.and_eq_true]at h;refine⟨by simpa using h.2,fun s hs=>?_⟩;obtain⟨j,hj⟩:=List.getElem?_of_mem hs;have:=List.all_eq_true.1 h.1 j (by simpa using (List.getElem?_eq_some_iff.1 hj).1);rw[wj hj]at this;simp only[Bool.and_eq_true]at this;exact this.1.2
def x4 (d:aK)(h:ao):Bool:=decide ((FV d h.id:Int)=h.bh)
def aS (d:aK):Bool:=d.store.all (x4 d)&&(fg d.store&&cU d.tree&&rh d.store d.tree&&sB d)
def lh (s:List ao)(x:aj):Option (List ao):=ct fa x.ids<|some s
def eG (s:List ao)(l:List aj):Option (List ao):=ct lh l<|some s
def cT (d:aK)(n:Bs):Option aK :=
 if aS d&&ep n&&(fc d.aw n).isNone&&decide (d.aw.length≠6) then(eG d.store d.tree).map (fun s=>⟨s,d.tree,d.aw++[⟨n,d.tree⟩]⟩) else none
theorem QZ (s:List ao)(l:List aj):((eG s l).getD []).length≤s.length:=by
 cases e:eG s l with
 | none=>simp
 | some r =>
  unfold eG at e
  have:=CO (P:=fun r:List ao=>r.length≤s.length) (f:=lh) (fun a b a' h1 h2=>by
   unfold lh at h2
   exact CO (P:=fun r:List ao=>r.length≤s.length) (f:=fa) (fun a b a' h1 h2=>by
    have:=YV h2;omega) _ _ _ h1 h2) _ _ _ (Nat.le_refl _) e
  simpa using this
theorem rK {b:List Int}(h:jz b=true):b.length≤32:=by
 simp only[jz,Bool.and_eq_true]at h;simpa using h.2
theorem ae4 {s:Bs}{xs:List Bs}{f k:Nat}(h4:xs++cut (s.drop f)=cut s)(h1:f≤k)(hk:s[k]? = some 47)(h5:∀j,f≤j→j<k→s[j]? ≠ some 47) :
  (xs++[(s.drop f).take<|k-f])++cut (s.drop<|k+1)=cut s:=by
 obtain⟨ef,he⟩:=List.getElem?_eq_some_iff.1 hk;have e:s.drop f=(s.drop f).take (k-f)++47::s.drop (k+1):=by
  conv=>lhs;rw[←List.take_append_drop (k-f)<|s.drop f]
  congr 1;rw[List.drop_drop,show f+(k-f)=k by omega,List.drop_eq_getElem_cons ef,he]
 rw[←h4]
 conv=>rhs;rw[e]
 rw[Uq]
 ·simp
 ·intro c hc;obtain⟨j,hj⟩:=List.getElem?_of_mem hc;rw[List.getElem?_take,List.getElem?_drop]at hj;split at hj
  ·rename_i ayr;intro e;subst e;exact h5 (f+j) (by omega) (by omega) hj
  ·cases hj
theorem atj {s:Bs}{f k:Nat}(h5:∀j,f≤j→j<k→s[j]? ≠ some 47)(hk:¬s[k]? = some 47):∀j,f≤j→j<k+1→s[j]? ≠ some 47:=by
 intro j h1 h2;rcases Nat.lt_or_ge j k with h|h
 ·exact h5 j h1 h
 ·obtain rfl:j=k:=by omega
  exact hk
theorem aeZ {s:Bs}{xs:List Bs}{f k:Nat}(h4:xs++cut (s.drop f)=cut s)(h5:∀j,f≤j→j<k→s[j]? ≠ some 47)(hk:s.length≤k):xs++[s.drop f]=cut s:=by
 rw[←h4,Uo<|s.drop f];intro c hc;obtain⟨j,hj⟩:=List.getElem?_of_mem hc;rw[List.getElem?_drop]at hj;intro e;subst e;have:=(List.getElem?_eq_some_iff.1 hj).1;exact h5 (f+j) (by omega) (by omega) hj
end Sp
namespace Fw
open Go
abbrev Fr:=List<|Nat×Obj
def fh:Fr→PH
 | [],_=>none
 | (k,o)::r,b=>if k=b then some o else fh r b
def dm (F:Fr):List Nat:=F.map (·.1)
theorem yx:∀{F:Fr} {b:Nat} {o:Obj},fh F b=some o→b ∈ dm F
 | [],_,_,h=>by simp[fh]at h
 | (k,o')::r,b,o,h=>by
  unfold fh at h;split at h
  ·next e=>subst e;simp[dm]
  ·have:=yx h;simp only[dm,List.map_cons,List.mem_cons];exact .inr this
theorem Ux:∀{F:Fr} {b:Nat},b ∈ dm F→∃o,fh F b=some o
 | [],_,h=>by simp[dm]at h
 | (k,o')::r,b,h=>by
  unfold fh;by_cases e:k=b
  ·simp[e]
  ·simp only[dm,List.map_cons,List.mem_cons]at h;rcases h with h|h
   ·exact absurd h.symm e
   ·simp only[e,if_false];exact Ux h
theorem afV {F:Fr}{b:Nat}(h:b ∉ dm F):fh F b=none:=by
 cases e:fh F b with
 | none=>rfl
 | some o=>exact absurd (yx e) h
theorem HG:∀(F F':Fr) (b:Nat),fh (F++F') b=(fh F b).or (fh F' b)
 | [],F',b=>by simp[fh]
 | (k,o)::r,F',b=>by
  simp only[List.cons_append,fh];split
  ·simp
  ·exact HG r F' b
theorem pU (F F':Fr):dm (F++F')=dm F++dm F':=by simp[dm]
theorem CM (F F':Fr):an (fh F) (fh<|F++F'):=fun b o h=>by simp[HG,h]
theorem CN {F F':Fr}(h:∀b,b ∈ dm F→b ∉ dm F'):an (fh F') (fh<|F++F'):=fun b o hb=>by
 rw[HG,afV<|fun hm=>h b hm<|yx hb];simpa using hb
def aA (F:Fr):aW where
 fp:=dm F
 pred h:=∀b o,fh F b=some o→h b=some o
 loc h h' e p:=fun b o hb=>by rw[←e b<|yx hb];exact p b o hb
 yu h p b hb:=by obtain⟨o,ho⟩:=Ux hb;exact⟨o,p b o ho⟩
section
variable {w0 w w':World} {G0 G G':PH} {S:List Nat} {B Bs Ls:List aW}
theorem CP (A B:List aW):aV (A++B)=aV A++aV B:=by simp[aV]
structure dA (w:World) (G:PH) (Ls:List aW):Prop where
 sub:aE G w
 own:∀r,r ∈ Ls→r.pred (fun b=>w.heap[b]?)∧∀b,b ∈ r.fp→G b=none
 nd:(aV Ls).Nodup
theorem Hp.JD (H:Hp w0 G0 S w G (Ls++B)):dA w G Ls :=
 ⟨H.sub,fun r hr=>⟨(H.own r<|List.mem_append.2<|.inl hr).1,fun b hb=>((H.own r<|List.mem_append.2<|.inl hr).2 b hb).1⟩,by have:=H.nd;rw[CP]at this;exact(List.nodup_append.1 this).1⟩
theorem dA.hp (h:dA w G Ls):Hp w G (aV Ls) w G Ls:=Hp.YH h.sub h.own h.nd
theorem Vc {A B:List aW}(h:A.Perm B):(aV A).Perm (aV B):=List.Perm.flatMap_right _ h
theorem Hp.perm (H:Hp w0 G0 S w G B){B':List aW}(hp:B.Perm B'):Hp w0 G0 S w G B' :=
 ⟨H.os,H.tape,H.output,H.size,H.ext,H.sub,H.le,H.cO,fun r hr=>H.own r<|hp.mem_iff.2 hr,(Vc hp).nodup_iff.1 H.nd⟩
theorem Hp.borrows (H:Hp w0 G0 S w G (Ls++B))(H':Hp w G (aV Ls) w' G' Bs):Hp w0 G0 S w' G' (Bs++B):=by
 have jE:=H.nd;rw[CP]at jE;obtain⟨n1,n2,n3⟩:=List.nodup_append.1 jE;have u7:∀b,b ∈ aV Ls→b ∉ aV B:=fun b h1 h2=>n3 b h1 b h2 rfl;have Ot:∀b,b ∈ aV B→b<w.heap.size:=fun b hb=>H.lt (by rw[CP];exact List.mem_append.2<|.inr hb);have xf:∀b,b ∈ aV Ls→(b ∈ S∨w0.heap.size≤b):=by
  intro b hb;obtain⟨r,hr,hb⟩:=List.mem_flatMap.1 hb;exact((H.own r<|List.mem_append.2<|.inl hr).2 b hb).2
 have zr:∀b,b ∈ aV B→w'.heap[b]? = w.heap[b]? := fun b hb=>H'.ext b (Ot b hb)<|fun h=>u7 b h hb;refine⟨H'.os.trans H.os,H'.tape.trans H.tape,H'.output.trans H.output,Nat.le_trans H.size H'.size,?_,H'.sub,H.le.trans H'.le,?_,?_,?_⟩
 ·intro b hb hS;rw[H'.ext b (Nat.lt_of_lt_of_le hb H.size)<|fun h=>?_]
  ·exact H.ext b hb hS
  ·rcases xf b h with h'|h'
   ·exact hS h'
   ·omega
 ·intro b hb hn;exact H'.cO b (Nat.lt_of_lt_of_le hb H.size)<|H.cO b hb hn
 ·intro q hq;rcases List.mem_append.1 hq with hq|hq
  ·refine⟨(H'.own q hq).1,fun b hb=>⟨((H'.own q hq).2 b hb).1,?_⟩⟩;rcases ((H'.own q hq).2 b hb).2 with h|h
   ·exact xf b h
   ·exact .inr<|Nat.le_trans H.size h
  ·have nh:=H.own q<|List.mem_append.2<|.inr hq;refine⟨q.loc _ _ (fun b hb=>(zr b<|List.mem_flatMap.2 ⟨q,hq,hb⟩).symm) nh.1,fun b hb=>⟨?_,(nh.2 b hb).2⟩⟩;exact H'.cO b (Ot b<|List.mem_flatMap.2 ⟨q,hq,hb⟩) (nh.2 b hb).1
 ·rw[CP];refine List.nodup_append.2 ⟨H'.nd,n2,?_⟩;intro a ha b hb e;subst e;obtain⟨q,hq,Di⟩:=List.mem_flatMap.1 ha;rcases ((H'.own q hq).2 a Di).2 with h|h
  ·exact u7 a h hb
  ·have:=Ot a hb;omega
theorem Hp.forget (H:Hp w0 G0 S w G B)(h0:aE G0 w0)(hS:∀b,b ∈ S→G0 b=none):Hp w0 G0 S w G0 B :=
 ⟨H.os,H.tape,H.output,H.size,H.ext,fun b o hb=>H.sub b o<|H.le b o hb,an.refl _,fun _ _ h=>h,
  fun r hr=>⟨(H.own r hr).1,fun b hb=>⟨by
   rcases ((H.own r hr).2 b hb).2 with h|h
   ·exact hS b h
   ·cases e:G0 b with
    | none=>rfl
    | some o=>have:=h0.lt e;omega,((H.own r hr).2 b hb).2⟩⟩,H.nd⟩
theorem Hp.nE (H:Hp w0 G0 S w G B){fp:List Nat}(NJ:∀b,b ∈ fp→b<w.heap.size){G1:PH}(hle:an G G1)(H':Hp w G1 [] w' G1 Bs):Hp w0 G0 S w' G (Bs++B):=by
 have H1:=H.step H'.Kl;refine⟨H1.os,H1.tape,H1.output,H1.size,H1.ext,H1.sub,H1.le,H1.cO,?_,?_⟩
 ·intro q hq;rcases List.mem_append.1 hq with hq|hq
  ·refine⟨(H'.own q hq).1,fun b hb=>?_⟩;have fU:=(H'.own q hq).2 b hb;have c7:w.heap.size≤b:=by
    rcases fU.2 with h|h
    ·simp at h
    ·exact h
   exact⟨H.RH c7,.inr<|Nat.le_trans H.size c7⟩
  ·exact H1.own q hq
 ·rw[CP];refine List.nodup_append.2 ⟨H'.nd,H.nd,?_⟩;intro a ha b hb e;subst e;obtain⟨q,hq,Di⟩:=List.mem_flatMap.1 ha;rcases ((H'.own q hq).2 a Di).2 with h|h
  ·simp at h
  ·have:=H.lt hb;omega
end
section
variable {w0 w w':World} {G0 G G':PH} {S:List Nat} {B Bs:List aW}
def hP (B:List aW)(ks:List Nat):List Nat:=ks.flatMap (fun k=>match nth B k with |some r=>r.fp|none=>[])
theorem fE {B:List aW}{ks:List Nat}{k:Nat}{r:aW}(hk:nth B k=some r)(hm:ks.contains k=true):∀b,b ∈ r.fp→b ∈ hP B ks:=fun b hb =>
 List.mem_flatMap.2 ⟨k,by simpa using hm,by simp only[hk];exact hb⟩
theorem af_ {B:List aW}{ks:List Nat}{b:Nat}(h:b ∈ hP B ks):b ∈ aV B:=by
 obtain⟨k,_,hb⟩:=List.mem_flatMap.1 h;cases e:nth B k with
 | none=>simp[e]at hb
 | some r=>simp only[e]at hb;exact Vb e hb
theorem Hp.er (H:Hp w0 G0 S w G B)(ks:List Nat):aE (cW G w<|hP B ks) w:=by
 intro b o hb;unfold cW at hb;cases h:G b with
 | some o'=>simp[h]at hb;subst hb;exact H.sub b o' h
 | none=>simp[h]at hb;exact hb.2
theorem Hp.jH (H:Hp w0 G0 S w G B){ks:List Nat}{k:Nat}{r:aW}(hk:nth B k=some r)(hm:ks.contains k=true):r.pred (cW G w<|hP B ks):=by
 have hr:=H.own r<|eO hk;exact r.loc _ _ (fun b hb=>(cW.at (hr.2 b hb).1<|fE hk hm b hb).symm) hr.1
theorem Hp.nA {α:Type}{E:PH→α→List Value→Prop} [ik E] (H:Hp w0 G0 S w G B){ks:List Nat}{k:Nat}{e:TypeId}{sz:Nat}{v:Value}{n:Nat}{cells:List Value}{xs:List α}(hk:nth B k=some (acc e sz v n cells))(hm:ks.contains k=true)(hc:ay E sz G cells xs)(hn:n=xs.length)(hl:xs.length≤1099511627776) :
  aU iN E sz (cW G w<|hP B ks) v xs:=Hg (H.jH hk hm) (hc.up<|cW.le _ _ _) hn hl
def kV (w:World)(G:PH)(φ:Value→List aW→Prop):Ending→World→Prop:=fun e w'=>∃v Bs,e= .returned v∧Hp w G [] w' G Bs∧φ v Bs
theorem Hp.jT (H:Hp w0 G0 S w G B){ks:List Nat}(H':Hp w (cW G w<|hP B ks) [] w' (cW G w<|hP B ks) Bs):Hp w0 G0 S w' G (Bs++B) :=
 H.nE (fp:=hP B ks) (fun b hb=>H.lt<|af_ hb) (cW.le _ _ _) H'
theorem Hp.nB (H:Hp w0 G0 S w G B):dA w G []:=Hp.JD (Ls:=[]) (B:=B) H
theorem Hp.gG (H:Hp w0 G0 S w G B)(H':Hp w G [] w' G' Bs):Hp w0 G0 S w' G' (Bs++B):=Hp.borrows (Ls:=[]) H H'
theorem Hp.ke {a:aW}(H:Hp w0 G0 S w G (a::B)):dA w G [a]:=Hp.JD (Ls:=[a]) H
theorem Hp.gq {a b:aW}(H:Hp w0 G0 S w G (a::b::B)):dA w G [a,b]:=Hp.JD (Ls:=[a,b]) H
theorem Hp.lM {a b c d e:aW}(H:Hp w0 G0 S w G (a::b::c::d::e::B)):dA w G [a,b,c,d,e]:=Hp.JD (Ls:=[a,b,c,d,e]) H
theorem Hp.jY {a:aW}(H:Hp w0 G0 S w G (a::B))(H':Hp w G (aV [a]) w' G' Bs):Hp w0 G0 S w' G' (Bs++B):=Hp.borrows (Ls:=[a]) H H'
theorem Hp.fO {a b:aW}(H:Hp w0 G0 S w G (a::b::B))(H':Hp w G (aV [a,b]) w' G' Bs):Hp w0 G0 S w' G' (Bs++B):=Hp.borrows (Ls:=[a,b]) H H'
theorem Hp.lr {a b c d e:aW}(H:Hp w0 G0 S w G (a::b::c::d::e::B))(H':Hp w G (aV [a,b,c,d,e]) w' G' Bs):Hp w0 G0 S w' G' (Bs++B):=Hp.borrows (Ls:=[a,b,c,d,e]) H H'
theorem Hp.wq {α:Type}{E:PH→α→List Value→Prop} [ik E] (H:Hp w0 G0 S w G B){k:Nat}{e:TypeId}{sz:Nat}{v:Value}{n:Nat}{cells:List Value}{xs:List α}(hk:nth B k=some (acc e sz v n cells))(akA:∀b,b ∈ (acc e sz v n cells).fp→b ∉ S)
  (hc:ay E sz G cells xs) (hn:n=xs.length) (hl:xs.length≤1099511627776):∃G',Hp w0 G0 S w G' (ez B k)∧an G G'∧aU iN E sz G' v xs:=by
 obtain⟨H',hp⟩:=H.BL hk akA;exact⟨_,H',cW.le _ _ _,Hg hp (hc.up<|cW.le _ _ _) hn hl⟩
theorem Hp.apart (H:Hp w0 G0 S w G B){k:Nat}{r:aW}(hk:nth B k=some r){ks:List Nat}(de:ks.contains k=false)(hS:∀b,b ∈ S→b ∈ hP B ks):∀b,b ∈ r.fp→b ∉ S:=by
 intro b hb hbS;obtain⟨j,hj,MX⟩:=List.mem_flatMap.1<|hS b hbS;cases e:nth B j with
 | none=>simp[e]at MX
 | some q =>
  simp only[e]at MX
  have N_:j≠k:=fun h=>by
   subst h;have:=List.contains_iff_mem.2 hj;rw[de]at this;cases this
  obtain⟨B1,B2,h1,_,h3⟩:=pd hk;have EE:List.Perm B (r::ez B k):=by
   rw[h3]
   conv=>lhs;rw[h1]
   exact List.perm_middle
  have jE:=(Vc EE).nodup_iff.1 H.nd;have hq:q ∈ ez B k:=by
   have key:∀(l:List aW) (j k:Nat),nth l j=some q→j≠k→q ∈ ez l k:=by
    intro l;induction l with
    | nil=>intro j k h;simp[nth]at h
    | cons x t ih =>
     intro j k h de;cases j with
     | zero=>cases k with
      | zero=>exact absurd rfl de
      | succ k=>simp only[nth,Option.some.injEq]at h;subst h;simp[ez]
     | succ j=>cases k with
      | zero=>simp only[nth]at h;exact eO h
      | succ k=>simp only[nth]at h;simp only[ez];exact List.mem_cons_of_mem _ (ih j k h<|by omega)
   exact key B j k e N_
  exact(List.nodup_append.1 jE).2.2 b hb b (List.mem_flatMap.2 ⟨q,hq,MX⟩) rfl
def nJ (G:PH)(b:Nat)(es:Array MapEntry)(clock:Nat):Prop:=G b=some (.map es clock)
theorem nJ.up {G G':PH}{b:Nat}{es:Array MapEntry}{clock:Nat}(h:nJ G b es clock)(hle:an G G'):nJ G' b es clock:=hle _ _ h
theorem nJ.at {G:PH}{w:World}{b:Nat}{es:Array MapEntry}{clock:Nat}(h:nJ G b es clock)(hs:aE G w):w.heap[b]? = some (.map es clock):=hs _ _ h
end
structure Ch (P:Program) (k:TypeId) {κ:Type} [DecidableEq κ] (key:κ→Value):Prop where
 und:∃kd,P.underlying k=some kd∧∀a b,Instr.sameNow kd (key a) (key b)=some (decide (a=b))
 bits:∀a,Instr.sameBits 10000 (key a) (key a)=true
 sX:∀e a w,(Instr.checkKey e 10000 k<|key a).run P w= .ok () w
theorem BN {P:Program}{k:TypeId}(h:P.underlying k=some (.int .i64)):Ch P k (Value.int .i64) where
 und:=⟨_,h,fun a b=>by
  simp only[Instr.sameNow,if_true,Option.some.injEq];rfl⟩
 bits a:=by rw[Instr.sameBits];simp
 sX e a w:=by
  rw[show(10000:Nat)=9999+1 from rfl,Instr.checkKey];simp[run_underlying h]
section
variable {κ:Type} [DecidableEq κ] {key:κ→Value}
structure bj (key:κ→Value) (es:Array MapEntry) (clock:Nat) (xs:List (κ×Value)):Prop where
 kv:es.toList.map (fun e=>(e.key,e.val))=xs.map (fun x=>(key x.1,x.2))
 nd:(xs.map (·.1)).Nodup
 born:(es.toList.map (·.born)).Nodup
 lt:∀e,e ∈ es.toList→e.born<clock
def jo (a:κ):List (κ×Value)→Nat→Option (Nat×Value)
 | [],_=>none
 | (k,v)::r,i=>if a=k then some (i,v) else jo a r<|i+1
def look (xs:List (κ×Value))(a:κ):Option Value:=(jo a xs 0).map (·.2)
theorem asU (a k:κ)(v:Value)(r:List (κ×Value)):look ((k,v)::r) a=if a=k then some v else look r a:=by
 have key:∀(l:List (κ×Value)) i j,(jo a l i).map (·.2)=(jo a l j).map (·.2):=by
  intro l;induction l with
  | nil=>intro i j;rfl
  | cons x t ih =>
   intro i j;obtain⟨k,v⟩:=x;simp only[jo];split
   ·rfl
   ·exact ih _ _
 simp only[look,jo];split
 ·rfl
 ·exact key _ _ _
theorem L5 (a:κ):∀(xs:List (κ×Value)) (i:Nat),match jo a xs i with
  | some (j,v)=>i≤j∧xs[j-i]? = some (a,v)
  | none=>a ∉ xs.map (·.1)
 | [],i=>by simp[jo]
 | (k,v)::r,i=>by
  have ih:=L5 a r<|i+1;simp only[jo];by_cases e:a=k
  ·subst e;simp
  ·simp only[e,if_false];cases h:jo a r (i+1) with
   | none=>rw[h]at ih;simp only[List.map_cons,List.mem_cons,not_or];exact⟨e,ih⟩
   | some p =>
    obtain⟨j,u⟩:=p;rw[h]at ih;obtain⟨h1,h2⟩:=ih;refine⟨by omega,?_⟩;rw[show j-i=(j-(i+1))+1 by omega];simpa using h2
theorem AO {a:κ}{xs:List (κ×Value)}{j:Nat}{v:Value}(h:jo a xs 0=some (j,v)):xs[j]? = some (a,v):=by
 have:=L5 a xs 0;rw[h]at this;simpa using this.2
theorem HK {a:κ}{xs:List (κ×Value)}(h:jo a xs 0=none):a ∉ xs.map (·.1):=by
 have:=L5 a xs 0;rw[h]at this;exact this
theorem run_findKey {P:Program}{k:TypeId}(K:Ch P k key){es:Array MapEntry}{clock:Nat}{xs:List (κ×Value)}(hm:bj key es clock xs)(a:κ)(w:World) :
  (Instr.findKey k (key a) es.toList).run P w= .ok (jo a xs 0) w:=by
 obtain⟨kd,hk,hs⟩:=K.und
 have key:∀(l:List MapEntry) (ys:List (κ×Value)) (i:Nat),l.map (fun e=>(e.key,e.val))=ys.map (fun x=>(key x.1,x.2))→Instr.findNow kd (key a) l i=some (jo a ys i):=by
  intro l;induction l with
  | nil=>intro ys i h;cases ys with
   | nil=>rfl
   | cons y t=>simp at h
  | cons e t ih =>
   intro ys i h;cases ys with
   | nil=>simp at h
   | cons y r =>
    obtain⟨k',v'⟩:=y;simp only[List.map_cons,List.cons.injEq,Prod.mk.injEq]at h;obtain⟨⟨h1,h2⟩,h3⟩:=h;simp only[Instr.findNow,h1,hs,jo];by_cases e':a=k'
    ·simp[e',h2]
    ·simp only[e',decide_false,if_false];exact ih r (i+1) h3
 simp only[Instr.findKey,Sem.run_bind,run_underlying hk,Result.andThen_ok,key _ _ 0 hm.kv];rfl
theorem yC {P:Program}{w:World}{b:Nat}{es:Array MapEntry}{c:Nat}(h:w.heap[b]? = some (.map es c)):(getObj b).run P w= .ok (.map es c) w:=by simp[getObj,Sem.run,h]
theorem Ki {P:Program}{w:World}{b:Nat}{es:Array MapEntry}{c:Nat}(h:w.heap[b]? = some (.map es c))(o':Obj):(setObj b o').run P w= .ok () (ChangeMaps.setBlock w b o'):=by
 simp[setObj,Sem.run,h,ChangeMaps.setBlock]
theorem Sd {P:Program}{t k e:TypeId}(K:Ch P k key)(ht:P.underlying t=some (.map k e)){zv:Value}(hz:∀w,(zeroValue e).run P w= .ok zv w){b:Nat}{es:Array MapEntry}{clock:Nat}{xs:List (κ×Value)}{w:World}
  (hb:w.heap[b]? = some (.map es clock)) (hm:bj key es clock xs) (a:κ) (c:Bool) :
  (Instr.lookup t (.map<|some b) (key a) c).run P w= .ok (if c then .tuple #[(look xs a).getD zv,.bool (look xs a).isSome] else(look xs a).getD zv) w:=by
 simp only[Instr.lookup,Sem.run_bind,run_underlying ht,Result.andThen_ok,yC hb,K.sX,run_findKey K hm,Sem.run_pure,look];cases h:jo a xs 0 with
 | none=>cases c<;>simp[hz]
 | some p=>cases c<;>simp
theorem avd {P:Program}{t k e:TypeId}(ht:P.underlying t=some (.map k e)){b:Nat}{es:Array MapEntry}{clock:Nat}{xs:List (κ×Value)}{w:World}
  (hb:w.heap[b]? = some (.map es clock)) (hm:bj key es clock xs) (ty:TypeId):(Builtin.len_ #[t] ty #[.map<|some b]).run P w= .ok (.int .i64 xs.length) w:=by
 have:es.size=xs.length:=by have:=congrArg List.length hm.kv;simpa using this
 simp[Builtin.len_,run_underlying ht,yC hb,goInt,this]
def upd (xs:List (κ×Value))(a:κ)(v:Value):List (κ×Value):=match jo a xs 0 with
 | some (i,_)=>xs.set i (a,v)
 | none=>xs++[(a,v)]
theorem awd {xs:List (κ×Value)}{a:κ}{v:Value}{i:Nat}{u:Value}(h:jo a xs 0=some (i,u)):(xs.set i (a,v)).map (·.1)=xs.map (·.1):=by
 have:=AO h;apply List.ext_getElem?;intro j;simp only[List.getElem?_map,List.getElem?_set];by_cases e:i=j
 ·subst e;have hl:=(List.getElem?_eq_some_iff.1 this).1;simp only[if_true,hl,this,Option.map_some]
 ·simp[e]
theorem bj.modify {es:Array MapEntry}{clock:Nat}{xs:List (κ×Value)}(hm:bj key es clock xs){i:Nat}{a:κ}{u:Value}(h:xs[i]? = some (a,u))(v:Value) :
  bj key (es.modify i fun e=>{e with key:=key a,val:=v}) clock (xs.set i (a,v)):=by
 have hk:(xs.set i (a,v)).map (·.1)=xs.map (·.1):=by
  apply List.ext_getElem?;intro j;simp only[List.getElem?_map,List.getElem?_set];by_cases e:i=j
  ·subst e;have hl:=(List.getElem?_eq_some_iff.1 h).1;simp only[if_true,hl,h,Option.map_some]
  ·simp[e]
 have hb:(es.modify i fun e=>{e with key:=key a,val:=v}).toList.map (·.born)=es.toList.map (·.born):=by
  apply List.ext_getElem?;intro j;simp only[List.getElem?_map,Array.getElem?_toList,Array.getElem?_modify];by_cases e:i=j
  ·subst e;simp only[if_true,Option.map_map];rfl
  ·simp[e]
 refine⟨?_,by rw[hk];exact hm.nd,by rw[hb];exact hm.born,?_⟩
 ·apply List.ext_getElem?;intro j;have hj:=congrArg (fun l=>l[j]?) hm.kv;simp only[List.getElem?_map,Array.getElem?_toList,Array.getElem?_modify,List.getElem?_set]at hj ⊢;by_cases e:i=j
  ·subst e;have hl:=(List.getElem?_eq_some_iff.1 h).1;rw[h]at hj;cases tw:es[i]? with
   | none=>simp[tw]at hj
   | some e0=>simp[tw,hl]
  ·simp[e,hj]
 ·intro e he;obtain⟨j,hj⟩:=List.getElem?_of_mem he;simp only[Array.getElem?_toList,Array.getElem?_modify]at hj;split at hj
  ·cases tw:es[j]? with
   | none=>simp[tw]at hj
   | some e0 =>
    simp[tw]at hj;subst hj;exact hm.lt e0 (by have:=List.mem_of_getElem? (l:=es.toList) (i:=j) (a:=e0) (by simpa using tw);exact this)
  ·exact hm.lt e (List.mem_of_getElem? (l:=es.toList) (i:=j)<|by simpa using hj)
theorem bj.push {es:Array MapEntry}{clock:Nat}{xs:List (κ×Value)}(hm:bj key es clock xs){a:κ}(h:a ∉ xs.map (·.1))(v:Value) :
  bj key (es.push {key:=key a,val:=v,born:=clock}) (clock+1) (xs++[(a,v)]):=by
 refine⟨by simp[hm.kv],?_,?_,?_⟩
 ·rw[List.map_append];refine List.nodup_append.2 ⟨hm.nd,by simp,?_⟩;intro x hx y hy e;simp at hy;subst e;subst hy;exact h hx
 ·rw[Array.toList_push,List.map_append];refine List.nodup_append.2 ⟨hm.born,by simp,?_⟩;intro x hx y hy e;simp at hy;obtain⟨e0,h0,rfl⟩:=List.mem_map.1 hx;have:=hm.lt e0 h0;omega
 ·intro e he;rw[Array.toList_push,List.mem_append]at he;rcases he with he|he
  ·have:=hm.lt e he;omega
  ·simp at he;subst he;simp
theorem bj.empty (c:Nat):bj key #[] c []:=⟨rfl,by simp,by simp,by simp⟩
theorem aaP {P:Program}{t k e:TypeId}(K:Ch P k key)(ht:P.underlying t=some (.map k e)){b:Nat}{es:Array MapEntry}{clock:Nat}{xs:List (κ×Value)}{w:World}
  (hb:w.heap[b]? = some (.map es clock)) (hm:bj key es clock xs) (a:κ) (v:Value) :
  ∃bR kj,(Instr.mapUpdate t (.map<|some b) (key a) v).run P w= .ok () (ChangeMaps.setBlock w b<|.map bR kj)∧bj key bR kj (upd xs a v):=by
 simp only[Instr.mapUpdate,Sem.run_bind,run_underlying ht,Result.andThen_ok,yC hb,K.sX,run_findKey K hm,upd];cases h:jo a xs 0 with
 | none=>exact⟨_,_,Ki hb _,hm.push (HK h) v⟩
 | some p =>
  obtain⟨i,u⟩:=p;have hx:=AO h;have hj:=congrArg (fun l=>l[i]?) hm.kv;simp only[List.getElem?_map,Array.getElem?_toList,hx,Option.map_some]at hj;cases tw:es[i]? with
  | none=>simp[tw]at hj
  | some e0 =>
   simp only[tw,Option.map_some,Option.some.injEq,Prod.mk.injEq]at hj;refine⟨es.modify i fun e=>{e with key:=key a,val:=v},clock,?_,hm.modify hx v⟩;simp only[tw,Option.map_some,Option.getD_some,hj.1,Instr.keyThatStays,K.bits,if_true,Sem.run_pure,Result.andThen_ok,Sem.run_bind,Ki hb]
def CK (xs:List (κ×Value))(a:κ):List (κ×Value):=match jo a xs 0 with
 | some (i,_)=>xs.eraseIdx i
 | none=>xs
theorem bj.erase {es:Array MapEntry}{clock:Nat}{xs:List (κ×Value)}(hm:bj key es clock xs)(i:Nat):bj key (es.eraseIdxIfInBounds i) clock (xs.eraseIdx i):=by
 have e1:(es.eraseIdxIfInBounds i).toList=es.toList.eraseIdx i:=by
  unfold Array.eraseIdxIfInBounds;split
  ·simp
  ·rw[List.eraseIdx_of_length_le<|by simp;omega]
 have q6:∀{α β:Type} (f:α→β) (l:List α) (i:Nat),(l.eraseIdx i).map f=(l.map f).eraseIdx i:=by
  intro α β f l;induction l with
  | nil=>intro i;simp
  | cons x t ih=>intro i;cases i with
   | zero=>simp
   | succ i=>simp[ih]
 refine⟨by rw[e1,q6,q6,hm.kv],by rw[q6];exact hm.nd.sublist<|List.eraseIdx_sublist _ _,by rw[e1,q6];exact hm.born.sublist<|List.eraseIdx_sublist _ _,fun e he=>hm.lt e ?_⟩;rw[e1]at he;exact(List.eraseIdx_sublist _ _).mem he
theorem au_ {P:Program}{t k e:TypeId}(K:Ch P k key)(ht:P.underlying t=some (.map k e)){b:Nat}{es:Array MapEntry}{clock:Nat}{xs:List (κ×Value)}{w:World}
  (hb:w.heap[b]? = some (.map es clock)) (hm:bj key es clock xs) (a:κ) (ty k2:TypeId) :
  ∃bR kj,(Builtin.delete_ #[t,k2] ty #[.map<|some b,key a]).run P w= .ok (.tuple #[]) (ChangeMaps.setBlock w b<|.map bR kj)∧bj key bR kj (CK xs a):=by
 simp only[Builtin.delete_,Sem.run_bind,run_underlying ht,Result.andThen_ok,yC hb,K.sX,run_findKey K hm,CK];cases h:jo a xs 0 with
 | none=>exact⟨es,clock,by simp[K.sX,run_findKey K hm,h,Ki hb,run_underlying ht,yC hb],hm⟩
 | some p=>exact⟨_,_,by simp[K.sX,run_findKey K hm,h,Ki hb,run_underlying ht,yC hb],hm.erase p.1⟩
end
inductive fC {α β:Type} (R:α→β→Prop):List α→List β→Prop
 | nil:fC R [] []
 | cons {x y l m} (h:R x y) (t:fC R l m):fC R (x::l) (y::m)
theorem fC.imp {α β:Type}{R R':α→β→Prop}(h:∀x y,R x y→R' x y){l:List α}{m:List β}(a:fC R l m):fC R' l m:=by
 induction a with
 | nil=>exact .nil
 | cons h1 _ ih=>exact .cons (h _ _ h1) ih
theorem Rp {κ:Type} [DecidableEq κ] {xs:List (κ×Value)}(nd:(xs.map (·.1)).Nodup){a:κ}{v:Value}(h:(a,v) ∈ xs):look xs a=some v:=by
 induction xs with
 | nil=>simp at h
 | cons x r ih =>
  obtain⟨k,u⟩:=x;rw[asU];simp only[List.map_cons,List.nodup_cons]at nd;rcases List.mem_cons.1 h with h|h
  ·simp only[Prod.mk.injEq]at h;simp[h.1,h.2]
  ·have de:a≠k:=fun e=>nd.1 (by rw[←e];exact List.mem_map.2 ⟨_,h,rfl⟩);simp only[de,if_false];exact ih nd.2 h
theorem asW {κ:Type} [DecidableEq κ] {xs:List (κ×Value)}{a:κ}(h:look xs a=none):a ∉ xs.map (·.1):=by
 unfold look at h;cases e:jo a xs 0 with
 | none=>exact HK e
 | some p=>simp[e]at h
theorem Zv {κ:Type} [DecidableEq κ] {xs:List (κ×Value)}{a:κ}(h:a ∉ xs.map (·.1)):look xs a=none:=by
 unfold look;cases e:jo a xs 0 with
 | none=>rfl
 | some p=>obtain⟨j,v⟩:=p;exact absurd (List.mem_map.2 ⟨_,List.mem_of_getElem?<|AO e,rfl⟩) h
theorem asV {κ:Type} [DecidableEq κ] {xs:List (κ×Value)}{a:κ}{v:Value}(h:look xs a=some v):(a,v) ∈ xs:=by
 unfold look at h;cases e:jo a xs 0 with
 | none=>simp[e]at h
 | some p =>
  obtain⟨j,u⟩:=p;simp[e]at h;subst h;exact List.mem_of_getElem?<|AO e
def ye (G:PH)(x:Int×Value)(y:ao):Prop:=x.1=y.id∧∃cs,x.2= .agg cs.toArray∧dx G y cs
def bB (G:PH)(xs:List (Int×Value))(L:List ao):Prop:=∃ys:List ao,ys.Perm L∧fC (ye G) xs ys
theorem bB.up {G G':PH}{xs:List (Int×Value)}{L:List ao}(h:bB G xs L)(hle:an G G'):bB G' xs L:=by
 obtain⟨ys,hp,hf⟩:=h;refine⟨ys,hp,hf.imp ?_⟩;rintro x y ⟨h1,cs,h2,h3⟩;exact⟨h1,cs,h2,ik.up hle h3⟩
theorem bB.perm {G:PH}{xs:List (Int×Value)}{L L':List ao}(h:bB G xs L)(hp:L.Perm L'):bB G xs L':=let ⟨ys,h1,h2⟩:=h;⟨ys,h1.trans hp,h2⟩
theorem bB.nil (G:PH):bB G [] []:=⟨[],List.Perm.nil,.nil⟩
theorem afS {G:PH}{xs:List (Int×Value)}{ys:List ao}(h:fC (ye G) xs ys):xs.map (·.1)=ys.map (·.id):=by
 induction h with
 | nil=>rfl
 | cons h _ ih=>simp[h.1,ih]
theorem bB.keys {G:PH}{xs:List (Int×Value)}{L:List ao}(h:bB G xs L):(xs.map (·.1)).Perm (L.map (·.id)):=by
 obtain⟨ys,hp,hf⟩:=h;rw[afS hf];exact hp.map _
theorem bB.len {G:PH}{xs:List (Int×Value)}{L:List ao}(h:bB G xs L):xs.length=L.length:=by have:=h.keys.length_eq;simpa using this
theorem LU {α β:Type}{R:α→β→Prop}{xs:List α}{ys:List β}(h:fC R xs ys){y:β}(hy:y ∈ ys):∃x,x ∈ xs∧R x y:=by
 induction h with
 | nil=>simp at hy
 | cons h _ ih =>
  rcases List.mem_cons.1 hy with rfl|hy
  ·exact⟨_,by simp,h⟩
  ·obtain⟨x,h1,h2⟩:=ih hy;exact⟨x,by simp[h1],h2⟩
theorem LS {α β:Type}{R:α→β→Prop}{xs:List α}{ys:List β}(h:fC R xs ys){x:α}(hx:x ∈ xs):∃y,y ∈ ys∧R x y:=by
 induction h with
 | nil=>simp at hx
 | cons h _ ih =>
  rcases List.mem_cons.1 hx with rfl|hx
  ·exact⟨_,by simp,h⟩
  ·obtain⟨x,h1,h2⟩:=ih hx;exact⟨x,by simp[h1],h2⟩
theorem bB.entry {G:PH}{xs:List (Int×Value)}{L:List ao}(h:bB G xs L){a:Int}{v:Value}(hx:(a,v) ∈ xs):∃y cs,y ∈ L∧y.id=a∧v= .agg cs.toArray∧dx G y cs:=by
 obtain⟨ys,hp,hf⟩:=h;obtain⟨y,h1,h2,cs,h3,h4⟩:=LS hf hx;exact⟨y,cs,hp.mem_iff.1 h1,h2.symm,h3,h4⟩
def cE (L:List ao)(id:Int):ao:=((Sp.bZ L id).bind<|fun i=>L[i]?).getD ⟨0,[],0⟩
theorem sU {L:List ao}{id:Int}{i:Nat}(h:Sp.bZ L id=some i):∃y,L[i]? = some y∧y.id=id:=by
 obtain⟨h1,h2,_⟩:=List.findIdx?_eq_some_iff_getElem.1 h;exact⟨L[i],by simp[h1],by simpa using h2⟩
theorem yi {L:List ao}{id:Int}(h:Sp.bZ L id=none):id ∉ L.map (·.id):=by
 intro hm;obtain⟨y,hy,rfl⟩:=List.mem_map.1 hm;have:=List.findIdx?_eq_none_iff.1 h y hy;simp at this
theorem HV {L:List ao}{id:Int}{i:Nat}{y:ao}(h:Sp.bZ L id=some i)(hy:L[i]? = some y):cE L id=y:=by simp[cE,h,hy]
theorem Mc {L:List ao}{id:Int}(h:Sp.bZ L id=none):cE L id=⟨0,[],0⟩:=by simp[cE,h]
theorem awU (G:PH):dx G ⟨0,[],0⟩ [.int .i64 0,.slice none 0 0,.int .i64 0]:=dx.mk (by decide) (aU.nil _ _ _) (by decide)
theorem bB.Zu {G:PH}{es:Array MapEntry}{clock:Nat}{xs:List (Int×Value)}{L:List ao}(h:bB G xs L)(hm:bj (Value.int .i64) es clock xs)(id:Int) :
  ∃cs,(look xs id).getD (.agg [.int .i64 0,.slice none 0 0,.int .i64 0].toArray)= .agg cs.toArray∧dx G (cE L id) cs∧(look xs id).isSome=(Sp.bZ L id).isSome:=by
 cases e:Sp.bZ L id with
 | none =>
  have h1:look xs id=none:=Zv<|fun hx=>yi e<|h.keys.mem_iff.1 hx;rw[h1,Mc e];exact⟨_,rfl,awU G,rfl⟩
 | some i =>
  obtain⟨y,hy,hid⟩:=sU e;rw[HV e hy];obtain⟨ys,hp,hf⟩:=h;obtain⟨x,hx,h1,cs,h2,h3⟩:=LU hf<|hp.mem_iff.2<|List.mem_of_getElem? hy;obtain⟨k,v⟩:=x;simp only at h1 h2;have:=Rp hm.nd (a:=id) (v:=v) (by rw[←hid,←h1];exact hx);rw[this];exact⟨cs,by simp[h2],h3,rfl⟩
theorem Hy {α:Type}:∀{l:List α} {i:Nat} {z:α},l[i]? = some z→l.Perm (z::l.eraseIdx i)
 | [],i,z,h=>by simp at h
 | x::r,0,z,h=>by simp only[List.getElem?_cons_zero,Option.some.injEq]at h;subst h;exact .refl _
 | x::r,i+1,z,h=>by
  simp only[List.getElem?_cons_succ]at h;exact(List.Perm.cons x<|Hy h).trans (.swap _ _ _)
def jV (L:List ao)(y:ao):List ao:=match Sp.bZ L y.id with
 | some i=>L.set i y
 | none=>L++[y]
def qJ (L:List ao)(id:Int):List ao:=match Sp.bZ L id with
 | some i=>L.take i++L.drop (i+1)
 | none=>L
theorem F_ {α:Type}(f:α→Int):∀(L:List α),(L.map f).Nodup→∀(i:Nat) (y:α),L[i]? = some y→L.Perm (y::L.filter (fun x=>decide (f x≠f y)))
 | [],_,i,y,h=>by simp at h
 | x::r,nd,0,y,h=>by
  simp only[List.getElem?_cons_zero,Option.some.injEq]at h;subst h;simp only[List.map_cons,List.nodup_cons]at nd
  have:(x::r).filter (fun z=>decide (f z≠f x))=r:=by
   rw[List.filter_cons];simp only[ne_eq,not_true_eq_false,decide_false,Bool.false_eq_true,if_false];rw[List.filter_eq_self];intro z hz;have:f z≠f x:=fun e=>nd.1 (by rw[←e];exact List.mem_map.2 ⟨z,hz,rfl⟩);simpa using this
  rw[this]
 | x::r,nd,i+1,y,h=>by
  simp only[List.getElem?_cons_succ]at h;simp only[List.map_cons,List.nodup_cons]at nd;have ih:=F_ f r nd.2 i y h;have de:f x≠f y:=fun e=>nd.1 (by rw[e];exact List.mem_map.2 ⟨y,List.mem_of_getElem? h,rfl⟩);rw[List.filter_cons];simp only[ne_eq,de,not_false_eq_true,decide_true,if_true];exact(List.Perm.cons x ih).trans (List.Perm.swap y x _)
theorem abD {L:List ao}(nd:(L.map (·.id)).Nodup)(y:ao):(jV L y).Perm (y::L.filter (fun x=>decide (x.id≠y.id))):=by
 unfold jV;cases e:Sp.bZ L y.id with
 | none =>
  have hn:=yi e
  have:L.filter (fun x=>decide (x.id≠y.id))=L:=by
   rw[List.filter_eq_self];intro z hz;have:z.id≠y.id:=fun e=>hn (by rw[←e];exact List.mem_map.2 ⟨z,hz,rfl⟩);simpa using this
  rw[this];exact List.perm_append_singleton y L
 | some i =>
  obtain⟨z,hz,hid⟩:=sU e;have hl:=(List.getElem?_eq_some_iff.1 hz).1;have zX:((L.set i y).map (·.id)).Nodup:=by
   have:(L.set i y).map (·.id)=L.map (·.id):=by
    apply List.ext_getElem?;intro j;simp only[List.getElem?_map,List.getElem?_set];by_cases ej:i=j
    ·subst ej;simp only[if_true,hl,hz,Option.map_some,hid]
    ·simp[ej]
   rw[this];exact nd
  have h1:=F_ (·.id) (L.set i y) zX i y (by simp[hl]);refine h1.trans<|List.Perm.cons y ?_
  have:∀(M:List ao) (i:Nat) (z:ao),M[i]? = some z→z.id=y.id→(M.set i y).filter (fun x=>decide (x.id≠y.id))=M.filter (fun x=>decide (x.id≠y.id)):=by
   intro M;induction M with
   | nil=>intro i z h;simp at h
   | cons m r ih =>
    intro i z h hi;cases i with
    | zero =>
     simp only[List.getElem?_cons_zero,Option.some.injEq]at h;subst h;simp[List.filter_cons,hi]
    | succ i =>
     simp only[List.getElem?_cons_succ]at h;simp only[List.set_cons_succ,List.filter_cons,ih i z h hi]
  rw[this L i z hz hid]
theorem abH {xs:List (Int×Value)}(nd:(xs.map (·.1)).Nodup)(a:Int)(v:Value):(upd xs a v).Perm ((a,v)::xs.filter (fun x=>decide (x.1≠a))):=by
 unfold upd;cases e:jo a xs 0 with
 | none =>
  have hn:=HK e
  have:xs.filter (fun x=>decide (x.1≠a))=xs:=by
   rw[List.filter_eq_self];intro z hz;have:z.1≠a:=fun e=>hn (by rw[←e];exact List.mem_map.2 ⟨z,hz,rfl⟩);simpa using this
  rw[this];exact List.perm_append_singleton _ _
 | some p =>
  obtain⟨i,u⟩:=p;have hx:=AO e;have hl:=(List.getElem?_eq_some_iff.1 hx).1;have zX:((xs.set i (a,v)).map (·.1)).Nodup:=by rw[awd e];exact nd
  have h1:=F_ (·.1) (xs.set i (a,v)) zX i (a,v) (by simp[hl]);refine h1.trans<|List.Perm.cons _ ?_
  have:∀(M:List (Int×Value)) (i:Nat) (z:Int×Value),M[i]? = some z→z.1=a→(M.set i (a,v)).filter (fun x=>decide (x.1≠a))=M.filter (fun x=>decide (x.1≠a)):=by
   intro M;induction M with
   | nil=>intro i z h;simp at h
   | cons m r ih =>
    intro i z h hi;cases i with
    | zero =>
     simp only[List.getElem?_cons_zero,Option.some.injEq]at h;subst h;simp[List.filter_cons,hi]
    | succ i =>
     simp only[List.getElem?_cons_succ]at h;simp only[List.set_cons_succ,List.filter_cons,ih i z h hi]
  show List.Perm ((xs.set i (a,v)).filter<|fun x=>decide (x.1≠a)) _;rw[this xs i _ hx rfl]
theorem afB {xs:List (Int×Value)}(nd:(xs.map (·.1)).Nodup)(a:Int):(CK xs a).Perm (xs.filter<|fun x=>decide (x.1≠a)):=by
 unfold CK;cases e:jo a xs 0 with
 | none =>
  have hn:=HK e
  have:xs.filter (fun x=>decide (x.1≠a))=xs:=by
   rw[List.filter_eq_self];intro z hz;have:z.1≠a:=fun e=>hn (by rw[←e];exact List.mem_map.2 ⟨z,hz,rfl⟩);simpa using this
  rw[this]
 | some p =>
  obtain⟨i,u⟩:=p;have hx:=AO e;have hl:=(List.getElem?_eq_some_iff.1 hx).1;have h1:=F_ (·.1) xs nd i (a,u) hx;have h2:xs.Perm ((a,u)::xs.eraseIdx i):=Hy hx;exact(h2.symm.trans h1).cons_inv
theorem Uv {L:List ao}(nd:(L.map (·.id)).Nodup)(id:Int):(qJ L id).Perm (L.filter<|fun x=>decide (x.id≠id)):=by
 unfold qJ;cases e:Sp.bZ L id with
 | none =>
  have hn:=yi e
  have:L.filter (fun x=>decide (x.id≠id))=L:=by
   rw[List.filter_eq_self];intro z hz;have:z.id≠id:=fun e=>hn (by rw[←e];exact List.mem_map.2 ⟨z,hz,rfl⟩);simpa using this
  rw[this]
 | some i =>
  obtain⟨z,hz,rfl⟩:=sU e;have hl:=(List.getElem?_eq_some_iff.1 hz).1;have h1:=F_ (·.id) L nd i z hz;have h2:L.Perm (z::L.eraseIdx i):=Hy hz;show List.Perm (L.take i++L.drop (i+1)) _;rw[←List.eraseIdx_eq_take_drop_succ];exact(h2.symm.trans h1).cons_inv
theorem US {G:PH}{xs bA:List (Int×Value)}(hp:xs.Perm bA):∀{ys:List ao},fC (ye G) xs ys→∃x9,ys.Perm x9∧fC (ye G) bA x9:=by
 induction hp with
 | nil=>intro ys h;exact⟨ys,.refl _,h⟩
 | cons x _ ih =>
  intro ys h;cases h with
  | cons h1 h2 =>
   obtain⟨x9,h3,h4⟩:=ih h2;exact⟨_::x9,.cons _ h3,.cons h1 h4⟩
 | swap x y l =>
  intro ys h;cases h with
  | cons h1 h2 =>
   cases h2 with
   | cons h3 h4=>exact⟨_,.swap _ _ _,.cons h3<|.cons h1 h4⟩
 | trans _ _ QF zN =>
  intro ys h;obtain⟨y1,h1,h2⟩:=QF h;obtain⟨y2,h3,h4⟩:=zN h2;exact⟨y2,h1.trans h3,h4⟩
theorem UR {G:PH}{xs:List (Int×Value)}{ys:List ao}(h:fC (ye G) xs ys)(a:Int):fC (ye G) (xs.filter<|fun x=>decide (x.1≠a)) (ys.filter<|fun y=>decide (y.id≠a)):=by
 induction h with
 | nil=>exact .nil
 | @cons x y l m h1 _ ih =>
  simp only[List.filter_cons,h1.1];split
  ·exact .cons h1 ih
  ·exact ih
theorem bB.nd {G:PH}{es:Array MapEntry}{clock:Nat}{xs:List (Int×Value)}{L:List ao}(h:bB G xs L)(hm:bj (Value.int .i64) es clock xs):(L.map (·.id)).Nodup:=h.keys.nodup_iff.1 hm.nd
theorem bB.upd {G:PH}{es:Array MapEntry}{clock:Nat}{xs:List (Int×Value)}{L:List ao}(h:bB G xs L)(hm:bj (Value.int .i64) es clock xs){y:ao}{cs:List Value}(hy:dx G y cs):bB G (Fw.upd xs y.id<|.agg cs.toArray) (jV L y):=by
 have nd:=h.nd hm;obtain⟨ys,hp,hf⟩:=h;have h1:fC (ye G) ((y.id,.agg cs.toArray)::xs.filter (fun x=>decide (x.1≠y.id))) (y::ys.filter (fun z=>decide (z.id≠y.id))):= .cons ⟨rfl,cs,rfl,hy⟩<|UR hf y.id;obtain⟨x9,h2,h3⟩:=US (abH hm.nd y.id<|.agg cs.toArray).symm h1;exact⟨x9,(h2.symm.trans<|List.Perm.cons y<|hp.filter _).trans (abD nd y).symm,h3⟩
theorem bB.del {G:PH}{es:Array MapEntry}{clock:Nat}{xs:List (Int×Value)}{L:List ao}(h:bB G xs L)(hm:bj (Value.int .i64) es clock xs)(id:Int):bB G (CK xs id) (qJ L id):=by
 have nd:=h.nd hm;obtain⟨ys,hp,hf⟩:=h;obtain⟨x9,h2,h3⟩:=US (afB hm.nd id).symm<|UR hf id;exact⟨x9,(h2.symm.trans<|hp.filter _).trans (Uv nd id).symm,h3⟩
end Fw
namespace Sp
open Go Fw
structure VH (L:List ao):Prop where
 d_:L.Pairwise (fun a b=>a.id<b.id)
 yt:L.Pairwise (fun a b=>a.bytes≠b.bytes)
 ok:∀h,h ∈ L→(1≤h.id∧h.id≤99)∧fV h.bytes=true∧(1≤h.bh∧h.bh≤999)
 len:L.length≤16
theorem aed {L:List ao}(h:∀i x y,L[i]? = some x→L[i+1]? = some y→x.id<y.id):L.Pairwise (fun a b=>a.id<b.id):=by
 rw[List.pairwise_iff_getElem];intro i j hi hj ph;have key:∀d i (hi:i<L.length) (hj:i+d+1<L.length),L[i].id<L[i+d+1].id:=by
  intro d;induction d with
  | zero=>intro i hi hj;exact h i _ _ (List.getElem?_eq_getElem<|by omega) (List.getElem?_eq_getElem<|by omega)
  | succ d ih =>
   intro i hi hj;have h1:=ih i hi (by omega);have h2:=h (i+d+1) L[i+d+1] L[i+(d+1)+1] (List.getElem?_eq_getElem<|by omega) (List.getElem?_eq_getElem<|by omega);omega
 have:=key (j-i-1) i hi (by omega);have e:i+(j-i-1)+1=j:=by omega
 simp only[e]at this;exact this
theorem eX {L:List ao}:fg L=true↔VH L:=by
 constructor
 ·intro h;simp only[fg,Bool.and_eq_true,List.all_eq_true,List.mem_range,decide_eq_true_eq]at h;obtain⟨h1,h2⟩:=h
  have at_:∀i x,L[i]? = some x→(ff x.id 1 99&&fV x.bytes&&ff x.bh 1 999&&n0 L i x&&(L.take i).all (fun g=> !iH g.bytes x.bytes))=true:=by
   intro i x hx;have:=h1 i (List.getElem?_eq_some_iff.1 hx).1
   rwa [nZ hx]at this
  refine⟨aed ?_,?_,?_,h2⟩
  ·intro i x y hx hy;have:=at_ (i+1) y hy;simp only[Bool.and_eq_true]at this;have:=this.1.2;simpa [n0,hx] using this
  ·rw[List.pairwise_iff_getElem];intro i j hi hj ph;have:=at_ j L[j] (by simp[hj]);simp only[Bool.and_eq_true,List.all_eq_true]at this;have:=this.2 L[i] (by rw[List.mem_take_iff_getElem];exact⟨i,by omega,rfl⟩);simpa [iH] using this
  ·intro x hx;obtain⟨i,hi⟩:=List.getElem?_of_mem hx;have:=at_ i x hi;simp only[Bool.and_eq_true,ff,decide_eq_true_eq]at this;obtain⟨⟨⟨⟨h3,h4⟩,h5⟩,_⟩,_⟩:=this;exact⟨h3,h4,h5⟩
 ·intro h;simp only[fg,Bool.and_eq_true,List.all_eq_true,List.mem_range,decide_eq_true_eq];refine⟨fun i hi=>?_,h.len⟩;rw[nZ (h:=L[i])<|by simp[hi]];obtain⟨h3,h4,h5⟩:=h.ok L[i] (by simp);simp only[Bool.and_eq_true,ff,decide_eq_true_eq,h4,h3,h5,and_self,true_and,List.all_eq_true];constructor
  ·unfold n0;by_cases h0:i=0
   ·simp[h0]
   ·have hl:i-1<L.length:=by omega
    have:=List.pairwise_iff_getElem.1 h.d_ (i-1) i hl hi (by omega);simp[h0,hl,this]
  ·intro g hg;obtain⟨j,hj,rfl⟩:=List.mem_take_iff_getElem.1 hg;have:=List.pairwise_iff_getElem.1 h.yt j i (by omega) hi (by omega);simpa [iH] using this
theorem VH.nd {L:List ao}(h:VH L):(L.map (·.id)).Nodup:=by
 rw[List.nodup_iff_pairwise_ne,List.pairwise_map];exact h.d_.imp fun h=>by omega
theorem VH.at {L:List ao}(h:VH L){i:Nat}{x:ao}(hx:L[i]? = some x):(1≤x.id∧x.id≤99)∧fV x.bytes=true∧(1≤x.bh∧x.bh≤999):=h.ok x<|List.mem_of_getElem? hx
theorem VH.aa6 {L:List ao}(h:VH L){i:Nat}{x:ao}(hx:L[i]? = some x){u:Int}(hu:1≤u∧u≤999):VH (L.set i ⟨x.id,x.bytes,u⟩):=by
 have hl:=(List.getElem?_eq_some_iff.1 hx);have e1:(L.set i ⟨x.id,x.bytes,u⟩).map (·.id)=L.map (·.id):=by
  apply List.ext_getElem?;intro j;simp only[List.getElem?_map,List.getElem?_set];by_cases e:i=j
  ·subst e;simp only[if_true,hl.1,hx,Option.map_some]
  ·simp[e]
 have e2:(L.set i ⟨x.id,x.bytes,u⟩).map (·.bytes)=L.map (·.bytes):=by
  apply List.ext_getElem?;intro j;simp only[List.getElem?_map,List.getElem?_set];by_cases e:i=j
  ·subst e;simp only[if_true,hl.1,hx,Option.map_some]
  ·simp[e]
 refine⟨?_,?_,?_,by simp[h.len]⟩
 ·have h1:(L.map (·.id)).Pairwise (·<·):=List.pairwise_map.2 h.d_;rw[←e1]at h1;exact List.pairwise_map.1 h1
 ·have h1:(L.map (·.bytes)).Pairwise (·≠·):=List.pairwise_map.2 h.yt;rw[←e2]at h1;exact List.pairwise_map.1 h1
 ·intro y hy;rcases List.mem_or_eq_of_mem_set hy with h1|h1
  ·exact h.ok y h1
  ·subst h1;have:=h.at hx;exact⟨this.1,this.2.1,hu⟩
theorem VH.bZ {L:List ao}(h:VH L){i:Nat}{x:ao}(hx:L[i]? = some x):bZ L x.id=some i:=by
 cases e:Sp.bZ L x.id with
 | none=>exact absurd (List.mem_map.2 ⟨x,List.mem_of_getElem? hx,rfl⟩)<|Fw.yi e
 | some j =>
  obtain⟨y,hy,hid⟩:=Fw.sU e;have hi:=(List.getElem?_eq_some_iff.1 hx);have hj:=(List.getElem?_eq_some_iff.1 hy);rcases Nat.lt_trichotomy i j with g|g|g
  ·have:=List.pairwise_iff_getElem.1 h.d_ i j hi.1 hj.1 g;rw[hi.2,hj.2]at this;omega
  ·rw[g]
  ·have:=List.pairwise_iff_getElem.1 h.d_ j i hj.1 hi.1 g;rw[hi.2,hj.2]at this;omega
theorem YX {L:List ao}(h:VH L){id:Int}{i:Nat}{x:ao}(hi:Sp.bZ L id=some i)(hx:L[i]? = some x)(hu:x.bh<999) :
  fa L id=some (jV L ⟨x.id,x.bytes,x.bh+1⟩)∧VH (jV L ⟨x.id,x.bytes,x.bh+1⟩):=by
 have h1:=h.bZ hx;have e:jV L ⟨x.id,x.bytes,x.bh+1⟩=L.set i ⟨x.id,x.bytes,x.bh+1⟩:=by simp[jV,h1]
 have hb:=h.at hx;refine⟨?_,by rw[e];exact h.aa6 hx<|by omega⟩;have de:¬x.bh=999:=by omega
 simp[fa,eX.2 h,hi,hx,de,wO hx,e]
theorem ars {L:List ao}(h:VH L){id:Int}(hi:Sp.bZ L id=none):fa L id=none:=by simp[fa,hi]
theorem YT {L:List ao}(h:VH L){id:Int}{i:Nat}{x:ao}(hi:Sp.bZ L id=some i)(hx:L[i]? = some x)(hu:999≤x.bh):fa L id=none:=by
 have:=h.at hx;have hu:x.bh=999:=by omega
 simp[fa,hi,hx,hu]
theorem afp {L:List ao}{id:Int}(hi:Sp.bZ L id=none):il L id=none:=by simp[il,hi]
theorem drop_one {L:List ao}(h:VH L){id:Int}{i:Nat}{x:ao}(hi:Sp.bZ L id=some i)(hx:L[i]? = some x)(hu:x.bh=1):il L id=some (qJ L id)∧VH (qJ L id):=by
 refine⟨by simp[il,eX.2 h,hi,hx,hu,qJ],?_⟩;have hs:(qJ L id).Sublist L:=by
  simp only[qJ,hi];rw[←List.eraseIdx_eq_take_drop_succ];exact List.eraseIdx_sublist _ _
 exact⟨h.d_.sublist hs,h.yt.sublist hs,fun y hy=>h.ok y<|hs.mem hy,Nat.le_trans hs.length_le h.len⟩
theorem afn {L:List ao}(h:VH L){id:Int}{i:Nat}{x:ao}(hi:Sp.bZ L id=some i)(hx:L[i]? = some x)(hu:x.bh≠1) :
  il L id=some (jV L ⟨x.id,x.bytes,x.bh-1⟩)∧VH (jV L ⟨x.id,x.bytes,x.bh-1⟩):=by
 have h1:=h.bZ hx;have e:jV L ⟨x.id,x.bytes,x.bh-1⟩=L.set i ⟨x.id,x.bytes,x.bh-1⟩:=by simp[jV,h1]
 have hb:=h.at hx;refine⟨?_,by rw[e];exact h.aa6 hx<|by omega⟩;simp only[il,eX.2 h,hi,hx,wO hx,e,if_true,Option.map_some];simp[hu];rfl
theorem insert_perm {α:Type}(p:α→Bool)(x:α)(L:List α):(L.takeWhile p++x::L.dropWhile p).Perm (L++[x]):=by
 have h:=List.takeWhile_append_dropWhile (p:=p) (l:=L);have h1:(L.takeWhile p++x::L.dropWhile p).Perm (x::(L.takeWhile p++L.dropWhile p)):=List.perm_middle;rw[h]at h1;exact h1.trans (List.perm_append_singleton x L).symm
theorem SD {α:Type}{p:α→Bool}:∀{L:List α} {x:α},x ∈ L.takeWhile p→p x=true∧x ∈ L
 | [],x,h=>by simp at h
 | y::r,x,h=>by
  rw[List.takeWhile_cons]at h;split at h
  ·rcases List.mem_cons.1 h with rfl|h
   ·exact⟨by assumption,by simp⟩
   ·have:=SD h;exact⟨this.1,by simp[this.2]⟩
  ·simp at h
theorem afl {L:List ao}(h:L.Pairwise (fun a b=>a.id<b.id))(n:Int):∀x,x ∈ L.dropWhile (fun g=>decide (g.id≤n))→n<x.id:=by
 induction L with
 | nil=>simp
 | cons y r ih =>
  rw[List.pairwise_cons]at h;intro x hx;rw[List.dropWhile_cons]at hx;split at hx
  ·exact ih h.2 x hx
  ·next hy =>
   simp at hy;rcases List.mem_cons.1 hx with rfl|hx
   ·exact hy
   ·have:=h.1 x hx;omega
theorem L_ (L:List ao):Sp.bZ L (iA L:Int)=none:=by
 have ef:(List.range<|L.length+1).findIdx (fun j:Nat=>(Sp.bZ L<|(j:Int)+1).isNone)<(List.range<|L.length+1).length:=by
  by_cases h:∀j:Nat,j<L.length+1→(Sp.bZ L<|(j:Int)+1).isSome=true
  ·have:=CQ h;omega
  ·simp only[Classical.not_forall]at h;obtain⟨j,hj,hn⟩:=h;exact List.findIdx_lt_length_of_exists ⟨j,by simpa using hj,by simpa using hn⟩
 have:=List.findIdx_getElem (w:=ef);simp only[List.getElem_range]at this;unfold iA;rw[show(((List.range<|L.length+1).findIdx (fun j:Nat=>(Sp.bZ L<|(j:Int)+1).isNone)+1:Nat):Int)=((List.range<|L.length+1).findIdx (fun j:Nat=>(Sp.bZ L<|(j:Int)+1).isNone):Int)+1 by omega];simpa using this
theorem SX {L:List ao}(h:VH L){b:List Int}(hb:fV b=true)(hn:kf L b=none)(hl:L.length<16):VH (ri L b):=by
 have gH:=L_ L;have ef:=HM L;have lG:∀x,x ∈ L→x.bytes≠b:=by
  intro x hx;have:=List.findIdx?_eq_none_iff.1 hn x hx;simpa [iH] using this
 have de:∀x,x ∈ L→x.id≠(iA L:Int):=fun x hx e=>Fw.yi gH<|List.mem_map.2 ⟨x,hx,e⟩;have hp:=insert_perm (rc L) (⟨(iA L:Int),b,1⟩:ao) L;have hs:=List.takeWhile_append_dropWhile (p:=rc L) (l:=L);have ha:=h.d_;rw[←hs,List.pairwise_append]at ha;rw[Jz];refine⟨?_,?_,?_,?_⟩
 ·rw[List.pairwise_append];refine⟨ha.1,?_,?_⟩
  ·rw[List.pairwise_cons];exact⟨fun x hx=>afl h.d_ _ x hx,ha.2.1⟩
  ·intro x hx y hy;have h1:=SD hx;have h2:x.id≤(iA L:Int):=by simpa [rc] using h1.1
   rcases List.mem_cons.1 hy with rfl|hy
   ·have:=de x h1.2;simp only;omega
   ·exact ha.2.2 x hx y hy
 ·refine(hp.pairwise_iff<|fun h=>Ne.symm h).2 ?_;rw[List.pairwise_append];exact⟨h.yt,by simp,fun x hx y hy=>by simp at hy;subst hy;exact lG x hx⟩
 ·intro y hy;rcases List.mem_append.1 (hp.mem_iff.1 hy) with hy|hy
  ·exact h.ok y hy
  ·simp at hy;subst hy;exact⟨⟨by simp;omega,by simp;omega⟩,hb,by simp,by simp⟩
 ·rw[hp.length_eq];simp;omega
theorem aaz {L:List ao}(h:VH L){b:List Int}(hb:fV b=true)(hn:kf L b=none)(hl:L.length<16):gN L b=some (ri L b,(iA L:Int)):=by
 simp[gN,eX.2 h,hb,hn,eX.2<|SX h hb hn hl]
theorem J9 {L:List ao}{b:List Int}(hn:kf L b=none)(hl:16≤L.length):gN L b=none:=by
 have:¬fg (ri L b)=true:=fun hv=>by
  have h1:=(eX.1 hv).len;rw[Zb]at h1;omega
 simp[gN,hn,this]
theorem aaC {L:List ao}(h:VH L){b:List Int}(hb:fV b=true){i:Nat}{x:ao}(hi:kf L b=some i)(hx:L[i]? = some x):gN L b=(fa L x.id).map (fun l=>(l,x.id)):=by
 have h1:=h.bZ hx;have hbd:=h.at hx;by_cases hu:x.bh<999
 ·have hk:=YX h h1 hx hu;have e:jV L ⟨x.id,x.bytes,x.bh+1⟩=bump L i 1:=by simp[jV,h1,wO hx]
  rw[hk.1];rw[e]at hk ⊢;simp[gN,eX.2 h,hb,hi,hx,eX.2 hk.2]
 ·have hu9:x.bh=999:=by omega
  rw[YT h h1 hx<|by omega]
  have:¬fg (bump L i 1)=true:=fun hv=>by
   have h2:=(eX.1 hv).at (i:=i) (x:=⟨x.id,x.bytes,x.bh+1⟩) (by rw[wO hx];simp[(List.getElem?_eq_some_iff.1 hx).1]);simp only at h2;omega
  simp[gN,hi,this]
theorem VH.kf {L:List ao}(h:VH L){x:ao}(hx:x ∈ L):∃i,Sp.kf L x.bytes=some i∧L[i]? = some x:=by
 cases e:Sp.kf L x.bytes with
 | none =>
  have:=List.findIdx?_eq_none_iff.1 e x hx;simp[iH]at this
 | some i =>
  obtain⟨h1,h2,_⟩:=List.findIdx?_eq_some_iff_getElem.1 e;refine⟨i,rfl,?_⟩;obtain⟨j,hj⟩:=List.getElem?_of_mem hx;have ig:=List.getElem?_eq_some_iff.1 hj;have h2:L[i].bytes=x.bytes:=by simpa [iH] using h2
  rcases Nat.lt_trichotomy i j with g|g|g
  ·have:=List.pairwise_iff_getElem.1 h.yt i j h1 ig.1 g;rw[ig.2]at this;exact absurd h2 this
  ·rw[g];exact hj
  ·have:=List.pairwise_iff_getElem.1 h.yt j i ig.1 h1 g;rw[ig.2]at this;exact absurd h2.symm this
end Sp
namespace Fw
open Go
section ops
variable {P:Program} {n:Nat} {ops:Array Oper} {Q:dp} {rest:List Oper} {L:br} {ds:List Deferred} {w w0:World} {G0:PH} {S:List Nat} {G:PH} {B:List aW}
variable {ty:TypeId} {ps:String} {af:Array Edge}
theorem Kh (H:Hp w0 G0 S w G B){k b:Nat}{o:Obj}(hk:nth B k=some (ai b o))(o':Obj):Hp w0 G0 S (ChangeMaps.setBlock w b o') G (bq B k<|ai b o'):=by
 have hb:w.heap[b]? = some o:=(H.own _<|eO hk).1;refine H.upd (w':=ChangeMaps.setBlock w b o') hk rfl rfl rfl (by simp[ChangeMaps.setBlock]) ?_ (ai b o') ?_ (by simp[ai]) (by simp[ai])
 ·intro c hc hn;simp[ai]at hn;have:¬b=c:=fun e=>hn e.symm;simp[ChangeMaps.setBlock,this]
 ·show(ChangeMaps.setBlock w b o').heap[b]? = some o';have hl:=(Array.getElem?_eq_some_iff.1 hb).1;simp[ChangeMaps.setBlock,hl]
theorem Hp.at (H:Hp w0 G0 S w G B){k b:Nat}{o:Obj}(hk:nth B k=some (ai b o)):w.heap[b]? = some o:=(H.own _<|eO hk).1
theorem aaa (H:Hp w0 G0 S w G B){d:Nat}{t:TypeId}(hd:Nat.blt d n=true)
  (next:∀b w',w.heap.size≤b→Hp w0 G0 S w' G (ai b (.map #[] 0)::B)→R P n ops Q rest ((d,.map<|some b)::L) ds w'):R P n ops Q (⟨some d,.makeMap t none,ty,ps,af,none⟩::rest) L ds w :=
 cP hd (fun a ha=>by
  simp only[execOp,Option.map_none,Instr.makeMap,Sem.run_bind,Sem.run_pure,Result.andThen_ok,newObj,Sem.run];rfl) (next w.heap.size (w.alloc<|.map #[] 0) (Nat.le_refl _) (H.add (Ext.alloc w _) (ai w.heap.size<|.map #[] 0) (sT w _) (by simp[ai])<|by simp[ai]))
theorem JX {d:Nat}{t k e:TypeId}{x y:Operand}{b:Nat}{es:Array MapEntry}{clock:Nat}{xs:List (Int×Value)}{L0:List ao}{id:Int}
  (hb:w.heap[b]? = some (.map es clock)) (hm:bj (Value.int .i64) es clock xs) (hS:bB G xs L0) (ht:P.underlying t=some (.map k e)) (hk:P.underlying k=some (.int .i64))
  (hz:∀w,(zeroValue e).run P w= .ok (.agg [.int .i64 0,.slice none 0 0,.int .i64 0].toArray) w) (hd:Nat.blt d n=true) (hx:od L x=some (.map<|some b)) (hy:od L y=some (.int .i64 id))
  (next:∀cs,dx G (cE L0 id) cs→R P n ops Q rest ((d,.agg cs.toArray)::L) ds w):R P n ops Q (⟨some d,.lookup t x y false,ty,ps,af,none⟩::rest) L ds w:=by
 obtain⟨cs,h1,h2,h3⟩:=hS.Zu hm id
 exact cP hd (fun a ha=>by
  have:=Sd (BN hk) ht hz hb hm id false;simp only[execOp,ha.eval hx,ha.eval hy,Sem.run_bind,this,Bool.false_eq_true,if_false,h1,Result.andThen_ok,Sem.run_pure])<|next cs h2
theorem RP {d:Nat}{t k e:TypeId}{x y:Operand}{b:Nat}{es:Array MapEntry}{clock:Nat}{xs:List (Int×Value)}{L0:List ao}{id:Int}
  (hb:w.heap[b]? = some (.map es clock)) (hm:bj (Value.int .i64) es clock xs) (hS:bB G xs L0) (ht:P.underlying t=some (.map k e)) (hk:P.underlying k=some (.int .i64))
  (hz:∀w,(zeroValue e).run P w= .ok (.agg [.int .i64 0,.slice none 0 0,.int .i64 0].toArray) w) (hd:Nat.blt d n=true) (hx:od L x=some (.map<|some b)) (hy:od L y=some (.int .i64 id))
  (next:∀cs,dx G (cE L0 id) cs→R P n ops Q rest ((d,.tuple #[.agg cs.toArray,.bool (Sp.bZ L0 id).isSome])::L) ds w):R P n ops Q (⟨some d,.lookup t x y true,ty,ps,af,none⟩::rest) L ds w:=by
 obtain⟨cs,h1,h2,h3⟩:=hS.Zu hm id
 exact cP hd (fun a ha=>by
  have:=Sd (BN hk) ht hz hb hm id true;simp only[execOp,ha.eval hx,ha.eval hy,Sem.run_bind,this,if_true,h1,h3,Result.andThen_ok,Sem.run_pure])<|next cs h2
theorem JY (k0:Nat)(H:Hp w0 G0 S w G B){t k e:TypeId}{x y z:Operand}{b:Nat}{es:Array MapEntry}{clock:Nat}{xs:List (Int×Value)}{L0:List ao}{id:Int}{cs:List Value}(h0:ao)
  (j5:nth B k0=some (ai b<|.map es clock)) (hm:bj (Value.int .i64) es clock xs) (hS:bB G xs L0) (ht:P.underlying t=some (.map k e)) (hk:P.underlying k=some (.int .i64))
  (hx:od L x=some (.map<|some b)) (hy:od L y=some (.int .i64 id)) (hz:od L z=some (.agg cs.toArray)) (hE:dx G h0 cs) (hid:id=h0.id)
  (next:∀bR kj bA w',Hp w0 G0 S w' G (bq B k0<|ai b<|.map bR kj)→bj (Value.int .i64) bR kj bA→bB G bA (jV L0 h0)→R P n ops Q rest L ds w') :
  R P n ops Q (⟨none,.mapUpdate t x y z,ty,ps,af,none⟩::rest) L ds w:=by
 subst hid;obtain⟨bR,kj,hr,r_⟩:=aaP (P:=P) (BN hk) ht (H.at j5) hm h0.id<|.agg cs.toArray
 exact Hc (fun a ha=>by
  simp only[execOp,ha.eval hx,ha.eval hy,ha.eval hz,Sem.run_map,Sem.run_bind,hr];rfl)<|next bR kj _ _ (Kh H j5 _) r_ (hS.upd hm hE)
theorem atx (k0:Nat)(H:Hp w0 G0 S w G B){t k k2 e:TypeId}{x y:Operand}{b:Nat}{es:Array MapEntry}{clock:Nat}{xs:List (Int×Value)}{L0:List ao}{id:Int}
  (j5:nth B k0=some (ai b<|.map es clock)) (hm:bj (Value.int .i64) es clock xs) (hS:bB G xs L0) (ht:P.underlying t=some (.map k e)) (hk:P.underlying k=some (.int .i64))
  (hx:od L x=some (.map<|some b)) (hy:od L y=some (.int .i64 id))
  (next:∀bR kj bA w',Hp w0 G0 S w' G (bq B k0<|ai b<|.map bR kj)→bj (Value.int .i64) bR kj bA→bB G bA (qJ L0 id)→R P n ops Q rest L ds w') :
  R P n ops Q (⟨none,.call ⟨.builtin .delete,#[x,y],#[t,k2]⟩,ty,ps,af,none⟩::rest) L ds w:=by
 obtain⟨bR,kj,hr,r_⟩:=au_ (P:=P) (BN hk) ht (H.at j5) hm id ty k2;intro a ha;refine wpList_plain rfl fun K hK=>?_;unfold Oper.wp;have:(execOp a.eval ⟨none,.call ⟨.builtin .delete,#[x,y],#[t,k2]⟩,ty,ps,af,none⟩).run P w= .ok (.value<|.tuple #[]) (ChangeMaps.setBlock w b<|.map bR kj):=by
  simp[execOp,resolve,invoke,builtin,ha.eval hx,ha.eval hy,hr]
 rw[this];exact hK _ _<|next bR kj _ _ (Kh H j5 _) r_ (hS.del hm id) _ (ha.R8 _)
theorem Z6 {d:Nat}{t k e:TypeId}{x:Operand}{b:Nat}{κ:Type} [DecidableEq κ] {key:κ→Value}{es:Array MapEntry}{clock:Nat}{xs:List (κ×Value)}
  (hb:w.heap[b]? = some (.map es clock)) (hm:bj key es clock xs) (ht:P.underlying t=some (.map k e)) (hd:Nat.blt d n=true) (hx:od L x=some (.map<|some b))
  (next:R P n ops Q rest ((d,.int .i64 xs.length)::L) ds w):R P n ops Q (⟨some d,.call ⟨.builtin .len,#[x],#[t]⟩,ty,ps,af,none⟩::rest) L ds w :=
 cP hd (fun a ha=>by simp[execOp,resolve,invoke,builtin,ha.eval hx,avd ht hb hm]) next
def uz (xs:List (Int×Value))(f:Int→Nat):Prop:=∀a,(look xs a).getD (.int .i64 0)= .int .i64 (f a:Int)
theorem uz.nil:uz [] (fun _=>0):=fun a=>by simp[look,jo]
theorem asX {es:Array MapEntry}{clock:Nat}{xs:List (Int×Value)}(hm:bj (Value.int .i64) es clock xs)(a:Int)(v:Value){bR:Array MapEntry}{kj:Nat}(r_:bj (Value.int .i64) bR kj (upd xs a v))(c:Int):look (upd xs a v) c=if c=a then some v else look xs c:=by
 have hp:=abH hm.nd a v;by_cases e:c=a
 ·subst e;simp only[if_true];exact Rp r_.nd (hp.mem_iff.2<|by simp)
 ·simp only[e,if_false];cases h:look xs c with
  | none =>
   refine Zv<|fun hc=>?_;obtain⟨x,hx,rfl⟩:=List.mem_map.1 hc;rcases List.mem_cons.1 (hp.mem_iff.1 hx) with rfl|hx
   ·exact e rfl
   ·exact asW h (List.mem_map.2 ⟨x,(List.mem_filter.1 hx).1,rfl⟩)
  | some u=>exact Rp r_.nd<|hp.mem_iff.2<|List.mem_cons.2<|.inr<|List.mem_filter.2 ⟨asV h,by simpa using e⟩
theorem Z9 {d:Nat}{t k e:TypeId}{x y:Operand}{b:Nat}{es:Array MapEntry}{clock:Nat}{xs:List (Int×Value)}{f:Int→Nat}{id:Int}
  (hb:w.heap[b]? = some (.map es clock)) (hm:bj (Value.int .i64) es clock xs) (hU:uz xs f) (ht:P.underlying t=some (.map k e)) (hk:P.underlying k=some (.int .i64))
  (hz:∀w,(zeroValue e).run P w= .ok (.int .i64 0) w) (hd:Nat.blt d n=true) (hx:od L x=some (.map<|some b)) (hy:od L y=some (.int .i64 id))
  (next:R P n ops Q rest ((d,.int .i64 (f id:Int))::L) ds w):R P n ops Q (⟨some d,.lookup t x y false,ty,ps,af,none⟩::rest) L ds w :=
 cP hd (fun a ha=>by
  have:=Sd (BN hk) ht hz hb hm id false;simp only[execOp,ha.eval hx,ha.eval hy,Sem.run_bind,this,Bool.false_eq_true,if_false,hU id,Result.andThen_ok,Sem.run_pure]) next
theorem atX (k0:Nat)(H:Hp w0 G0 S w G B){t k e:TypeId}{x y z:Operand}{b:Nat}{es:Array MapEntry}{clock:Nat}{xs:List (Int×Value)}{f:Int→Nat}{id v:Int}(u:Nat)
  (j5:nth B k0=some (ai b<|.map es clock)) (hm:bj (Value.int .i64) es clock xs) (hU:uz xs f) (ht:P.underlying t=some (.map k e)) (hk:P.underlying k=some (.int .i64))
  (hx:od L x=some (.map<|some b)) (hy:od L y=some (.int .i64 id)) (hz:od L z=some (.int .i64 v)) (hv:v=(u:Int))
  (next:∀bR kj bA w',Hp w0 G0 S w' G (bq B k0<|ai b<|.map bR kj)→bj (Value.int .i64) bR kj bA→uz bA (fun a=>if a=id then u else f a)→R P n ops Q rest L ds w') :
  R P n ops Q (⟨none,.mapUpdate t x y z,ty,ps,af,none⟩::rest) L ds w:=by
 subst hv;obtain⟨bR,kj,hr,r_⟩:=aaP (P:=P) (BN hk) ht (H.at j5) hm id<|.int .i64 (u:Int)
 refine Hc (fun a ha=>by
  simp only[execOp,ha.eval hx,ha.eval hy,ha.eval hz,Sem.run_map,Sem.run_bind,hr];rfl)<|next bR kj _ _ (Kh H j5 _) r_ (fun a=>?_)
 rw[asX hm id _ r_];by_cases e:a=id
 ·simp[e]
 ·simp only[e,if_false];exact hU a
def GC (es:Array MapEntry)(seen:Array Nat)(y:ao):Prop:=∃e,e ∈ es.toList∧e.key= .int .i64 y.id∧e.born ∈ seen
theorem aae (H:Hp w0 G0 S w G B){d:Nat}{t k e:TypeId}{x:Operand}{b:Nat}{es:Array MapEntry}{clock:Nat}(hb:w.heap[b]? = some (.map es clock))(ht:P.underlying t=some (.map k e))(hd:Nat.blt d n=true)(hx:od L x=some (.map<|some b))
  (next:∀r w',w.heap.size≤r→Hp w0 G0 S w' G (ai r (.mapIter (some b) clock #[] clock)::B)→w'.heap[b]? = some (.map es clock)→R P n ops Q rest ((d,.pointer<|some ⟨r,0,none⟩)::L) ds w') :
  R P n ops Q (⟨some d,.range t x,ty,ps,af,none⟩::rest) L ds w :=
 cP (w':=w.alloc<|.mapIter (some b) clock #[] clock) hd (fun a ha=>by
  simp only[execOp,ha.eval hx,Instr.range,Sem.run_map,Sem.run_bind,run_underlying ht,Result.andThen_ok,yC hb,Sem.run_pure,newObj,Sem.run]
  rfl) (next w.heap.size _ (Nat.le_refl _) (H.add (Ext.alloc w _) (ai w.heap.size _) (sT w _) (by simp[ai])<|by simp[ai]) (by
   rw[(Ext.alloc w _).block b (Array.getElem?_eq_some_iff.1 hb).1];exact hb))
theorem Q_ {es:Array MapEntry}{seen:Array Nat}{e:MapEntry}:e ∈ (leftOf es seen).toList↔e ∈ es.toList∧e.born ∉ seen:=by
 simp[leftOf]
theorem ass {es:Array MapEntry}{seen:Array Nat}{e:MapEntry}(h:e ∈ (leftOf es seen).toList):(leftOf es<|seen.push e.born).size<(leftOf es seen).size:=by
 have key : ∀ l : List MapEntry, e ∈ l → e.born ∉ seen → (l.filter<|fun x => !(seen.push e.born).contains x.born).length < (l.filter<|fun x => !seen.contains x.born).length := by
  intro l
  have le:∀l:List MapEntry,(l.filter<|fun x=> !(seen.push e.born).contains x.born).length≤(l.filter<|fun x=> !seen.contains x.born).length:=by
   intro l;induction l with
   | nil=>simp
   | cons x r ih =>
    simp only[List.filter_cons];by_cases h1:x.born ∈ seen
    ·have h2:x.born ∈ seen.push e.born:=by simp[h1]
     simpa [h1,h2] using ih
    ·by_cases h2:x.born=e.born
     ·have h3:x.born ∈ seen.push e.born:=by simp[h2]
      simp[h1,h3];simp at ih;omega
     ·have h3:¬x.born ∈ seen.push e.born:=by simp[h1,h2]
      simp[h1,h3];simpa using ih
  induction l with
  | nil=>simp
  | cons x r ih =>
   intro hm hn;rcases List.mem_cons.1 hm with rfl|hm
   ·have h3:e.born ∈ seen.push e.born:=by simp
    have:=le r;simp[List.filter_cons,hn,h3];simp at this;omega
   ·have ih:=ih hm hn;simp only[List.filter_cons];by_cases h1:x.born ∈ seen
    ·have h2:x.born ∈ seen.push e.born:=by simp[h1]
     simpa [h1,h2] using ih
    ·by_cases h2:x.born=e.born
     ·have h3:x.born ∈ seen.push e.born:=by simp[h2]
      simp[h1,h3];simp at ih;omega
     ·have h3:¬x.born ∈ seen.push e.born:=by simp[h1,h2]
      simp[h1,h3];simpa using ih
 have hm:=Q_.1 h;have:=key es.toList hm.1 hm.2;unfold leftOf;have e1:∀q:MapEntry→Bool,(es.filter q).size=(es.toList.filter q).length:=fun q=>by rw[←Array.toList_filter,Array.length_toList]
 rw[e1,e1];exact this
theorem aad (k0:Nat)(H:Hp w0 G0 S w G B){d:Nat}{x:Operand}{b r:Nat}{seen:Array Nat}{es:Array MapEntry}{clock:Nat}{xs:List (Int×Value)}{L0:List ao}
  (hb:w.heap[b]? = some (.map es clock)) (hm:bj (Value.int .i64) es clock xs) (hS:bB G xs L0) (j5:nth B k0=some (ai r<|.mapIter (some b) clock seen clock)) (si:r≠b) (hd:Nat.blt d n=true) (hx:od L x=some (.pointer<|some ⟨r,0,none⟩))
  (over:(∀y,y ∈ L0→GC es seen y)→R P n ops Q rest ((d,.tuple #[.bool false])::L) ds w)
  (step:∀e y cs w',e ∈ es.toList→e.key= .int .i64 y.id→e.val= .agg cs.toArray→y ∈ L0→dx G y cs→w'.heap[b]? = some (.map es clock)→(leftOf es<|seen.push e.born).size<(leftOf es seen).size →
   Hp w0 G0 S w' G (bq B k0<|ai r<|.mapIter (some b) clock (seen.push e.born) clock)→R P n ops Q rest ((d,.tuple #[.bool true,.int .i64 y.id,.agg cs.toArray])::L) ds w') :
  R P n ops Q (⟨some d,.next x false,ty,ps,af,none⟩::rest) L ds w:=by
 rcases run_next_at (P:=P) w ty r b clock clock seen es clock (H.at j5) hb hm.lt (Nat.le_refl _) with ⟨h1,h2⟩|⟨e,he,w1,hw,h2⟩
 ·refine cP hd (fun a ha=>?_) (over<|fun y hy=>?_)
  ·simp only[execOp,ha.eval hx,Sem.run_bind,h2,Result.andThen_ok,Sem.run_pure]
  ·obtain⟨x,hx,h3⟩:∃x,x ∈ xs∧x.1=y.id:=by
    have:=hS.keys.mem_iff.2<|List.mem_map.2 ⟨y,hy,rfl⟩;obtain⟨x,h3,h4⟩:=List.mem_map.1 this;exact⟨x,h3,h4⟩
   have:(Value.int .i64 x.1,x.2) ∈ es.toList.map (fun e=>(e.key,e.val)):=by rw[hm.kv];exact List.mem_map.2 ⟨x,hx,rfl⟩
   obtain⟨e,he,h4⟩:=List.mem_map.1 this;simp only[Prod.mk.injEq]at h4;refine⟨e,he,by rw[h4.1,h3],?_⟩;have hz:(leftOf es seen)= #[]:=Array.eq_empty_of_size_eq_zero h1;refine Classical.byContradiction fun hn=>?_;have:=Q_.2 ⟨he,hn⟩;rw[hz]at this;simp at this
 ·have DX:=(Q_.1 he);have:(e.key,e.val) ∈ xs.map (fun x=>(Value.int .i64 x.1,x.2)):=by rw[←hm.kv];exact List.mem_map.2 ⟨e,DX.1,rfl⟩
  obtain⟨x,mD,l9⟩:=List.mem_map.1 this;simp only[Prod.mk.injEq]at l9;obtain⟨y,cs,hy,hid,hv,hE⟩:=hS.entry (a:=x.1) (v:=x.2) mD;have xg:e.key= .int .i64 y.id:=by rw[←l9.1,hid]
  have I7:e.val= .agg cs.toArray:=by rw[←l9.2,hv]
  have Hw:Hp w0 G0 S w1 G B:=by
   rcases hw with rfl|rfl
   ·exact H
   ·exact H.step (Ext.refl w).drew
  refine cP (w':=ChangeMaps.setBlock w1 r<|.mapIter (some b) clock (seen.push e.born) clock) hd (fun a ha=>?_)<|step e y cs _ DX.1 xg I7 hy hE ?_ (ass he)<|Kh Hw j5 _
  ·simp only[execOp,ha.eval hx,Sem.run_bind,h2,xg,I7,Result.andThen_ok,Sem.run_pure]
  ·have yS:w1.heap[b]? = some (.map es clock):=by rcases hw with rfl|rfl<;>exact hb
   simpa [ChangeMaps.setBlock,si] using yS
theorem Z1 (k0:Nat)(H:Hp w0 G0 S w G B){d:Nat}{x:Operand}{b r:Nat}{seen:Array Nat}{es:Array MapEntry}{clock:Nat}{xs:List (Int×Value)}{e:MapEntry}{id:Int}{cs:List Value}
  (hb:w.heap[b]? = some (.map es clock)) (hm:bj (Value.int .i64) es clock xs) (j5:nth B k0=some (ai r<|.mapIter (some b) clock (seen.push e.born) clock)) (he:e ∈ es.toList) (xg:e.key= .int .i64 id) (I7:e.val= .agg cs.toArray) (hd:Nat.blt d n=true) (hx:od L x=some (.pointer<|some ⟨r,0,none⟩))
  (next:R P n ops Q rest ((d,.tuple #[.int .i64 id,.agg cs.toArray])::L) ds w):R P n ops Q (⟨some d,.entry x,ty,ps,af,none⟩::rest) L ds w :=
 cP hd (fun a ha=>by
  have:=run_entry_at (P:=P) w r b clock seen es clock e (H.at j5) hb he hm.born;simp only[execOp,ha.eval hx,Sem.run_bind,this,xg,I7,Result.andThen_ok,Sem.run_pure]) next
theorem aaZ {es:Array MapEntry}{clock:Nat}{xs:List (Int×Value)}{L0:List ao}{seen:Array Nat}{e:MapEntry}{y y':ao}(hm:bj (Value.int .i64) es clock xs)(jE:(L0.map (·.id)).Nodup)(he:e ∈ es.toList)(xg:e.key= .int .i64 y.id)(hy:y ∈ L0)(Qj:y' ∈ L0)(h:GC es (seen.push e.born) y'):y'=y∨GC es seen y':=by
 obtain⟨e',h1,h2,h3⟩:=h;rcases Array.mem_push.1 h3 with h3|h3
 ·exact .inr ⟨e',h1,h2,h3⟩
 ·left;have key:∀(l:List MapEntry),(l.map (·.born)).Nodup→e ∈ l→e' ∈ l→e'.born=e.born→e'=e:=by
   intro l;induction l with
   | nil=>simp
   | cons z r ih =>
    intro nd a b c;simp only[List.map_cons,List.nodup_cons]at nd;rcases List.mem_cons.1 a with rfl|a1<;>rcases List.mem_cons.1 b with rfl|b1
    ·rfl
    ·exact(nd.1<|List.mem_map.2 ⟨e',b1,c⟩).elim
    ·exact(nd.1<|List.mem_map.2 ⟨e,a1,c.symm⟩).elim
    ·exact ih nd.2 a1 b1 c
  have hee:=key _ hm.born he h1 h3;subst hee;rw[xg]at h2;simp only[Value.int.injEq,true_and]at h2;have inj:∀(l:List ao),(l.map (·.id)).Nodup→y ∈ l→y' ∈ l→y.id=y'.id→y'=y:=by
   intro l;induction l with
   | nil=>simp
   | cons z r ih =>
    intro nd a b c;simp only[List.map_cons,List.nodup_cons]at nd;rcases List.mem_cons.1 a with rfl|a1<;>rcases List.mem_cons.1 b with rfl|b1
    ·rfl
    ·exact(nd.1<|List.mem_map.2 ⟨y',b1,c.symm⟩).elim
    ·exact(nd.1<|List.mem_map.2 ⟨y,a1,c⟩).elim
    ·exact ih nd.2 a1 b1 c
  exact inj L0 jE hy Qj h2
end ops
theorem Sb {α:Type}(z:List α):∀n,rep n z=(List.replicate n z).flatten
 | 0=>by simp[rep]
 | n+1=>by simp[rep,Sb z n,List.replicate_succ]
theorem ay.rep {α:Type}{E:PH→α→List Value→Prop}{sz:Nat}{G:PH}{z:List Value}{x0:α}(h:E G x0 z)(hl:z.length=sz)(n:Nat):ay E sz G (Fw.rep n z) (List.replicate n x0):=by
 refine⟨List.replicate n z,Sb z n,by simp,fun i x hx=>?_⟩;rw[List.getElem?_replicate]at hx ⊢;split at hx
 ·simp only[Option.some.injEq]at hx;subst hx;rename_i ef;exact⟨z,by simp[ef],hl,h⟩
 ·cases hx
theorem sS {e:TypeId}{sz:Nat}{v:Value}{n m:Nat}{c:List Value}{B:List aW}(h:n=m):acc e sz v n c::B=acc e sz v m c::B:=by rw[h]
theorem qI {G G':PH}{c:List Value}{xs:List Int}(h:ay c8 1 G c xs):ay c8 1 G' c xs:=h.mono<|fun _ _ h=>h
section ops
variable {P:Program} {n:Nat} {ops:Array Oper} {Q:dp} {rest:List Oper} {L:br} {ds:List Deferred} {w w0:World} {G0:PH} {S:List Nat} {G:PH} {B:List aW}
variable {ty:TypeId} {ps:String} {af:Array Edge}
theorem Z_ (H:Hp w0 G0 S w G B){d:Nat}{t e:TypeId}{i:TypeInfo}{sz bytes:Nat}{x y:Operand}{c:Nat}{p q:Int}(hU:P.underlying t=some (.slice e))(hI:∀w,(typeInfo e).run P w= .ok i w)(hz:∃z,i.zero=some z∧(vc z).length=sz)(hs:i.size=sz)(iZ:i.bytes=bytes)(hd:Nat.blt d n=true)
  (hx:od L x=some (.int .i64 p)) (hy:od L y=some (.int .i64 q)) (hp:p=0) (hq:q=(c:Int)) (hb:c≤2199023255552) (fU:Nat.ble bytes 64=true)
  (next:∀b w',Hp w0 G0 S w' G (acc e sz (.slice (some ⟨b,0,none⟩) 0 c) 0 []::B)→R P n ops Q rest ((d,.slice (some ⟨b,0,none⟩) 0 c)::L) ds w'):R P n ops Q (⟨some d,.makeSlice t x y,ty,ps,af,none⟩::rest) L ds w:=by
 subst hp hq;obtain⟨z,iG,ku⟩:=hz;have yT:bytes≤64:=by simpa using fU
 have rX:i.bytes*c≤281474976710656:=by
  rw[iZ]
  calc bytes*c≤64*2199023255552:=Nat.mul_le_mul yT hb
   _≤_:=by decide
 obtain⟨w',hr,oP,hg⟩:=run_make_own (P:=P) w w.heap.size t e i z sz hU (vW hI) iG hs .i64 .i64 c rX (by simp only[maxLen];omega)<|Nat.le_refl _;have E:Ext w w':=⟨hg.os,hg.tape,hg.output,hg.size,fun b hb=>hg.block b hb<|by simp⟩;obtain⟨h1,h2⟩:=oP
 have OX:(acc e sz (.slice (some ⟨w.heap.size,0,none⟩) 0 c) 0 []).pred (fun b=>w'.heap[b]?):=by
  refine⟨h1,?_⟩;rcases h2 with ⟨h2,_⟩|⟨g,cap,cur,h2,_,h3,h4,h5,h6,h7⟩
  ·cases h2
  ·exact .inr ⟨g,cap,cur,h2,h3,h4,h5,Nat.le_of_eq h6.symm,h7⟩
 exact cP hd (fun a ha=>by simp[execOp,ha.eval hx,ha.eval hy,hr])<|next _ w' (H.add E _ OX (fun b hb=>by rw[gO,List.mem_singleton]at hb;exact Nat.le_of_eq hb.symm)<|bI _ _ _ _ _)
theorem atG (H:Hp w0 G0 S w G B){d:Nat}{t e:TypeId}{i:TypeInfo}{sz bytes:Nat}{x y:Operand}{c:Nat}{p q:Int}{zl:List Value}(hU:P.underlying t=some (.slice e))(hI:∀w,(typeInfo e).run P w= .ok i w)(hz:∃z,i.zero=some z∧vc z=zl)(nV:Nat.beq zl.length sz=true)(hs:i.size=sz)(iZ:i.bytes=bytes)(eF:Nat.blt 0 sz=true)(hd:Nat.blt d n=true)
  (hx:od L x=some (.int .i64 p)) (hy:od L y=some (.int .i64 q)) (hp:p=(c:Int)) (hq:q=(c:Int)) (hb:c≤2199023255552) (fU:Nat.ble bytes 64=true)
  (next:∀b w',Hp w0 G0 S w' G (acc e sz (.slice (some ⟨b,0,none⟩) c c) c (rep c zl)::B)→R P n ops Q rest ((d,.slice (some ⟨b,0,none⟩) c c)::L) ds w'):R P n ops Q (⟨some d,.makeSlice t x y,ty,ps,af,none⟩::rest) L ds w:=by
 subst hp hq;obtain⟨z,iG,rfl⟩:=hz;have apS:(vc z).length=sz:=Nat.eq_of_beq_eq_true nV;have ayZ:0<sz:=by simpa using eF
 have yT:bytes≤64:=by simpa using fU
 have rX:i.bytes*c≤281474976710656:=by
  rw[iZ]
  calc bytes*c≤64*2199023255552:=Nat.mul_le_mul yT hb
   _≤_:=by decide
 obtain⟨w',hr,oP,hg⟩:=run_make_full (P:=P) w w.heap.size t e i z sz hU (vW hI) iG hs .i64 .i64 c rX (by simp only[maxLen];omega)<|Nat.le_refl _;have E:Ext w w':=⟨hg.os,hg.tape,hg.output,hg.size,fun b hb=>hg.block b hb<|by simp⟩;obtain⟨h1,h2⟩:=oP;have aiq:(madeCells z.cells<|c*sz).toList=rep c (vc z):=by
  have:=ZA (vc z) c (by omega);rw[uf,←apS];exact congrArg Array.toList this
 rw[aiq]at h1 h2
 have OX:(acc e sz (.slice (some ⟨w.heap.size,0,none⟩) c c) c<|rep c<|vc z).pred (fun b=>w'.heap[b]?):=by
  refine⟨h1,?_⟩;rcases h2 with ⟨h2,_⟩|⟨g,cap,cur,h2,_,h3,h4,h5,h6,h7⟩
  ·cases h2
  ·exact .inr ⟨g,cap,cur,h2,h3,h4,h5,Nat.le_of_eq h6.symm,h7⟩
 exact cP hd (fun a ha=>by simp[execOp,ha.eval hx,ha.eval hy,hr])<|next _ w' (H.add E _ OX (fun b hb=>by rw[gO,List.mem_singleton]at hb;exact Nat.le_of_eq hb.symm)<|bI _ _ _ _ _)
theorem RN (off:Nat){d:Nat}{t u:TypeId}{x:Operand}{k:Nat}{l:List Value}{fields:Array Field}{f:Field}{v:Value}(hU:∀w,(underlying t).run P w= .ok (.struct fields) w)(hf:fields[k]? = some f)(hu:f.type=u)(ho:Nat.beq f.offset off=true)
  (hA:∀w,(isAgg u).run P w= .ok false w) (hd:Nat.blt d n=true) (hx:od L x=some (.agg l.toArray)) (hv:nth l off=some v)
  (next:R P n ops Q rest ((d,v)::L) ds w):R P n ops Q (⟨some d,.field t x k,ty,ps,af,none⟩::rest) L ds w :=
 cP hd (fun a ha=>by
  have:=Nat.eq_of_beq_eq_true ho;subst this hu;rw[ii]at hv;have e:asAgg (.agg l.toArray)=pure l.toArray:=rfl;simp[execOp,ha.eval hx,Instr.field,hU,hf,e,part,hA,hv]) next
end ops
section ops
variable {P:Program} {n:Nat} {ops:Array Oper} {Q:dp} {rest:List Oper} {L:br} {ds:List Deferred} {w w0:World} {G0:PH} {S:List Nat} {G:PH} {B:List aW}
variable {ty:TypeId} {ps:String} {af:Array Edge}
theorem agu {op:BinOp}{t:TypeId}{x y:Operand}{a:Option Addr}{m c:Nat}{b:Value}:(eqGuard op t x y (.slice a m c) b).run P w= .ok () w:=by
 cases op<;>rfl
theorem Mg {op:BinOp}{t:TypeId}{x y:Operand}{a:Option Addr}{b:Value}:(eqGuard op t x y (.pointer a) b).run P w= .ok () w:=by
 cases op<;>rfl
theorem aty {d:Nat}{x y:Operand}{t u e:TypeId}{a:Option Addr}{m c m' c':Nat}(hU:P.underlying t=some (.slice e))(hd:Nat.blt d n=true)(hx:od L x=some (.slice a m c))(hy:od L y=some (.slice none m' c'))
  (next:R P n ops Q rest ((d,.bool a.isNone)::L) ds w):R P n ops Q (⟨some d,.binOp .eql t x y u,ty,ps,af,none⟩::rest) L ds w :=
 cP hd (fun f ha=>by
  have h1:(binOp .eql t (.slice a m c)<|.slice none m' c').run P w= .ok (.bool a.isNone) w:=by
   cases a with
   | none=>exact run_eql_nil_slice w t e none m' c' m c hU
   | some p =>
    simp only[binOp,Op.equal,Op.maxDepth];simp[Lib.run_equalIn_slice_nil w 9999 t e (some p) m c m' c' hU]
  simp[execOp,ha.eval hx,ha.eval hy,agu,h1]) next
theorem pB {d:Nat}{x y:Operand}{t u e:TypeId}{p:Option Addr}(hU:P.underlying t=some (.pointer e))(hd:Nat.blt d n=true)(hx:od L x=some (.pointer p))(hy:od L y=some (.pointer none))
  (next:R P n ops Q rest ((d,.bool p.isNone)::L) ds w):R P n ops Q (⟨some d,.binOp .eql t x y u,ty,ps,af,none⟩::rest) L ds w :=
 cP hd (fun f ha=>by
  have h1:(binOp .eql t (.pointer p)<|.pointer none).run P w= .ok (.bool p.isNone) w:=run_eql_pointer_nil w t p (by simp[Program.pointee,hU]);simp[execOp,ha.eval hx,ha.eval hy,Mg,h1]) next
theorem Ge {d:Nat}{x y:Operand}{t u e:TypeId}{p:Option Addr}(hU:P.underlying t=some (.pointer e))(hd:Nat.blt d n=true)(hx:od L x=some (.pointer p))(hy:od L y=some (.pointer none))
  (next:R P n ops Q rest ((d,.bool<|!p.isNone)::L) ds w):R P n ops Q (⟨some d,.binOp .neq t x y u,ty,ps,af,none⟩::rest) L ds w :=
 cP hd (fun f ha=>by
  have h1:(binOp .neq t (.pointer p)<|.pointer none).run P w= .ok (.bool<|!p.isNone) w:=run_neq_pointer_nil w t p (by simp[Program.pointee,hU]);simp[execOp,ha.eval hx,ha.eval hy,Mg,h1]) next
theorem atu {d:Nat}{x:Operand}{t e:TypeId}{a:Option Addr}{m c:Nat}(hT:P.underlying t=some (.slice e))(hd:Nat.blt d n=true)(hx:od L x=some (.slice a m c))
  (next:R P n ops Q rest ((d,.int .i64 c)::L) ds w):R P n ops Q (⟨some d,.call ⟨.builtin .cap,#[x],#[t]⟩,ty,ps,af,none⟩::rest) L ds w :=
 cP hd (fun b hb=>by simp[execOp,resolve,invoke,builtin,hb.eval hx,Builtin.cap_,run_underlying hT,goInt]) next
end ops
end Fw
namespace Sp
open Go Fw
def jS (c:UInt8)(x:UInt8):Bool:=decide (x=c)
def cutAt (c:UInt8):Bs→List Bs
 | []=>[[]]
 | x::r=>if x=c then[]::cutAt c r else match cutAt c r with
  | []=>[[x]]
  | w::ws=>(x::w)::ws
theorem AH:∀s,cutAt 47 s=cut s
 | []=>rfl
 | x::r=>by
  simp only[cutAt,cut,AH r];all_goals (split<;>rfl)
theorem CA (c:UInt8):∀s,cutAt c s≠[]
 | []=>by simp[cutAt]
 | x::r=>by
  unfold cutAt;split
  ·simp
  ·split<;>simp
theorem Jq (c x:UInt8)(r:Bs):(x::r).findIdx? (jS c)=if x=c then some 0 else(r.findIdx?<|jS c).map (·+1):=by
 rw[List.findIdx?_cons];simp only[jS,decide_eq_true_eq]
theorem Ul (c:UInt8):∀{s:Bs} {m:Nat},s.findIdx? (jS c)=some m→cutAt c s=s.take m::cutAt c (s.drop<|m+1)
 | [],m,h=>by simp at h
 | x::r,m,h=>by
  rw[Jq]at h;by_cases e:x=c
  ·simp only[e,if_true,Option.some.injEq]at h;subst h;simp[cutAt,e]
  ·simp only[e,if_false,Option.map_eq_some_iff]at h;obtain⟨j,h1,rfl⟩:=h;have:=Ul c h1;simp only[cutAt,e,if_false,this,List.take_succ_cons,List.drop_succ_cons]
theorem Uj (c:UInt8):∀{s:Bs},s.findIdx? (jS c)=none→cutAt c s=[s]
 | [],_=>rfl
 | x::r,h=>by
  rw[Jq]at h;by_cases e:x=c
  ·simp[e]at h
  ·simp only[e,if_false,Option.map_eq_none_iff]at h;simp only[cutAt,e,if_false,Uj c h]
theorem Lx (c:UInt8):∀{s:Bs} {m:Nat},s.findIdx? (jS c)=some m→s.count c=(s.drop<|m+1).count c+1
 | [],m,h=>by simp at h
 | x::r,m,h=>by
  rw[Jq]at h;by_cases e:x=c
  ·simp only[e,if_true,Option.some.injEq]at h;subst h;simp[e]
  ·simp only[e,if_false,Option.map_eq_some_iff]at h;obtain⟨j,h1,rfl⟩:=h;have:=Lx c h1;rw[List.count_cons_of_ne e,this,List.drop_succ_cons]
theorem aeW (c:UInt8){s:Bs}(h:s.findIdx? (jS c)=none):s.count c=0:=by
 rw[List.count_eq_zero];intro hm;have:=List.findIdx?_eq_none_iff.1 h c hm;simp[jS]at this
theorem QG (c:UInt8):∀s:Bs,Lib.indexByte s c=dV (s.findIdx?<|jS c)
 | []=>rfl
 | x::r=>by
  unfold Lib.indexByte;rw[Jq,QG c r];by_cases e:x=c
  ·simp[e,dV]
  ·cases h:r.findIdx? (jS c) with
   | none=>simp[dV,e]
   | some j =>
    have h1:¬((j:Int)= -1):=by omega
    simp[dV,e,h1]
theorem ae3 {c:UInt8}{r s:Bs}{xs:List Bs}{i m:Nat}(h:xs.take i++cutAt c r=cutAt c s)(hm:r.findIdx? (jS c)=some m)(hi:i<xs.length){y:Bs}(hy:y=r.take m):(xs.set i y).take (i+1)++cutAt c (r.drop<|m+1)=cutAt c s:=by
 subst hy;rw[Ul c hm]at h;rw[←h,List.take_add_one];simp[List.take_set_of_le,hi]
theorem ae0 {c:UInt8}{r s:Bs}{xs:List Bs}{i:Nat}(h:xs.take i++cutAt c r=cutAt c s)(hn:r.count c=0)(hi:i<xs.length):(xs.set i r).take (i+1)=cutAt c s:=by
 have hr:cutAt c r=[r]:=by
  cases e:r.findIdx? (jS c) with
  | none=>exact Uj c e
  | some m=>have:=Lx c e;omega
 rw[hr]at h;rw[←h,List.take_add_one];simp[List.take_set_of_le,hi]
theorem T0 (c:UInt8)(s:Bs):s.count c≤s.length:=List.count_le_length
def parts (p:Bs):List Bs:=if cB p then cut p else[]
theorem Ur:∀s:Bs,((cut s).map<|fun w=>w.length+1).sum=s.length+1
 | []=>rfl
 | c::r=>by
  have ih:=Ur r;have de:=lx r;unfold cut;by_cases e:c=47
  ·simp only[e,if_true,List.map_cons,List.sum_cons,ih,List.length_cons,List.length_nil];omega
  ·simp only[e,if_false];cases h:cut r with
   | nil=>exact absurd h de
   | cons w ws =>
    rw[h]at ih;simp only[List.map_cons,List.sum_cons,List.length_cons]at ih ⊢;omega
theorem avT {l:List Bs}(h:l.all ep=true):(l.map<|fun w=>w.length+1).sum≤6*l.length:=by
 induction l with
 | nil=>simp
 | cons w r ih =>
  simp only[List.all_cons,Bool.and_eq_true]at h;have h1:=ih h.2;have h2:w.length≤5:=by
   have:=h.1;simp[ep]at this;omega
  simp only[List.map_cons,List.sum_cons,List.length_cons];omega
theorem xS {p:Bs}(h:cB p=true):p.length≤23:=by
 simp only[cB,Bool.and_eq_true,decide_eq_true_eq]at h;have h1:=Ur p;have h2:=avT h.1;omega
theorem auy {p:Bs}(h:23<p.length):parts p=[]:=by
 have:¬cB p=true:=fun hp=>by have:=xS hp;omega
 simp[parts,this]
theorem auz {p:Bs}(h:4<(cut p).length):parts p=[]:=by
 have:¬cB p=true:=fun hp=>by simp[cB]at hp;omega
 simp[parts,this]
theorem auw {p:Bs}{k:Nat}{w:Bs}(h:(cut p)[k]? = some w)(hw:ep w=false):parts p=[]:=by
 have:¬cB p=true:=fun hp=>by
  simp only[cB,Bool.and_eq_true]at hp;rw[all_false h hw]at hp;simp at hp
 simp[parts,this]
theorem auA {p:Bs}(h:(cut p).all ep=true)(hl:(cut p).length≤4):parts p=cut p:=by
 have:cB p=true:=by simp[cB,h,hl]
 simp[parts,this]
theorem auB (p:Bs):decide (0<(parts p).length)=cB p:=by
 unfold parts;cases h:cB p with
 | true=>simp;exact List.length_pos_iff.2<|lx p
 | false=>simp
def v8 (l:List ao)(k:Nat):Int:=if k=0 then 0 else((l[k-1]?).map (·.id)).getD 0
theorem asg {l:List ao}{k:Nat}{z:ao}(h:l[k]? = some z):v8 l (k+1)=z.id:=by simp[v8,h]
theorem at2 {l:List ao}{k:Nat}{z:ao}(hz:l[k]? = some z)(h:z.id≤v8 l k):rk l k=false:=by
 rw[nZ hz];by_cases hk:k=0
 ·have:¬1≤z.id:=by simp[v8,hk]at h;omega
  simp[ff,this]
 ·have hl:=(List.getElem?_eq_some_iff.1 hz).1;have:n0 l k z=false:=by
   simp only[v8,hk,if_false]at h;have h2:k-1<l.length:=by omega
   simp[h2]at h;simp[n0,hk,h2];omega
  simp[this]
theorem at3 {l:List ao}{k:Nat}{z:ao}(hz:l[k]? = some z)(bo:∀j,j<k→rk l j=true)(h:v8 l k<z.id)(hid:z.id≤99)(hb:fV z.bytes=true)(hu:1≤z.bh∧z.bh≤999)(hd:(l.take k).all (fun g=> !iH g.bytes z.bytes)=true):rk l k=true:=by
 have hl:=(List.getElem?_eq_some_iff.1 hz).1;have h1:1≤z.id∧n0 l k z=true:=by
  by_cases hk:k=0
  ·simp only[v8,hk,if_true]at h;exact⟨by omega,by simp[n0,hk]⟩
  ·have h2:k-1<l.length:=by omega
   have h3:=bo (k-1) (by omega);rw[nZ (h:=l[k-1])<|by simp[h2]]at h3;simp only[Bool.and_eq_true,ff,decide_eq_true_eq]at h3;simp[v8,hk,h2]at h;refine⟨by omega,?_⟩;simp[n0,hk,h2];omega
 rw[nZ hz,hb,h1.2,hd];simp[ff,h1.1,hid,hu]
theorem JZ {l:List ao}{k:Nat}{z:ao}(hz:l[k]? = some z)(h:99<z.id∨z.bh<1∨999<z.bh∨fV z.bytes=false):rk l k=false:=by
 rw[nZ hz];rcases h with h|h|h|h
 ·have:¬z.id≤99:=by omega
  simp[ff,this]
 ·have:¬1≤z.bh:=by omega
  simp[ff,this]
 ·have:¬z.bh≤999:=by omega
  simp[ff,this]
 ·simp[h]
theorem at1 {l:List ao}{k j:Nat}{z y:ao}(hz:l[k]? = some z)(hj:j<k)(hy:l[j]? = some y)(h:iH y.bytes z.bytes=true):rk l k=false:=by
 rw[nZ hz,all_false (l:=l.take k) (k:=j) (c:=y) (by rw[List.getElem?_take,if_pos hj];exact hy)<|by simp[h]];simp
theorem B9 {l:List ao}{k:Nat}(hk:k<l.length)(h:rk l k=false):fg l=false:=by
 rw[fg,mJ hk h];rfl
theorem avU {l:List ao}(h:16<l.length):fg l=false:=by
 have:¬l.length≤16:=by omega
 simp[fg,this]
theorem avV {l:List ao}(h:∀j,j<l.length→rk l j=true)(hl:l.length≤16):fg l=true:=by
 rw[fg,Au h];simp[hl]
theorem get_some {L:List ao}{id:Int}(h:(Sp.bZ L id).isSome=true):∃i,Sp.bZ L id=some i∧L[i]? = some (cE L id)∧(cE L id).id=id:=by
 obtain⟨i,hi⟩:=Option.isSome_iff_exists.1 h;obtain⟨y,hy,hid⟩:=Fw.sU hi;rw[HV hi hy];exact⟨i,hi,hy,hid⟩
theorem HW {L:List ao}{id:Int}(h:(Sp.bZ L id).isSome=true):id=(cE L id).id:=let ⟨_,_,_,h⟩:=get_some h;h.symm
theorem rQ {L:List ao}(hV:VH L){id:Int}(h:(Sp.bZ L id).isSome=true):(1≤id∧id≤99)∧fV (cE L id).bytes=true∧(1≤(cE L id).bh∧(cE L id).bh≤999):=by
 obtain⟨i,_,h2,h3⟩:=get_some h;have:=hV.at h2;rw[h3]at this;exact this
theorem AQ {L:List ao}{id:Int}(h:(Sp.bZ L id).isSome=false):cE L id=⟨0,[],0⟩:=Mc (by simpa using h)
theorem QO {L:List ao}(hV:VH L){id:Int}(h:(Sp.bZ L id).isSome=true)(hu:(cE L id).bh<999):fa L id=some (jV L ⟨(cE L id).id,(cE L id).bytes,(cE L id).bh+1⟩)∧VH (jV L ⟨(cE L id).id,(cE L id).bytes,(cE L id).bh+1⟩):=by
 obtain⟨i,h1,h2,_⟩:=get_some h;exact YX hV h1 h2 hu
theorem BM {L:List ao}(hV:VH L){id:Int}(h:(Sp.bZ L id).isSome=false∨999≤(cE L id).bh):fa L id=none:=by
 cases e:(Sp.bZ L id).isSome with
 | false=>exact ars hV (by simpa using e)
 | true =>
  obtain⟨i,h1,h2,_⟩:=get_some e;exact YT hV h1 h2 (by simpa [e] using h)
theorem UC {L:List ao}(hV:VH L){id:Int}(h:(Sp.bZ L id).isSome=true)(hu:(cE L id).bh=1):il L id=some (qJ L id)∧VH (qJ L id):=by
 obtain⟨i,h1,h2,_⟩:=get_some h;exact drop_one hV h1 h2 hu
theorem UD {L:List ao}(hV:VH L){id:Int}(h:(Sp.bZ L id).isSome=true)(hu:(cE L id).bh≠1):il L id=some (jV L ⟨(cE L id).id,(cE L id).bytes,(cE L id).bh-1⟩)∧VH (jV L ⟨(cE L id).id,(cE L id).bytes,(cE L id).bh-1⟩):=by
 obtain⟨i,h1,h2,_⟩:=get_some h;exact afn hV h1 h2 hu
theorem UF {L:List ao}{id:Int}(h:(Sp.bZ L id).isSome=false):il L id=none:=afp (by simpa using h)
def mU (L:List ao)(b:List Int):Int:=(((Sp.kf L b).bind<|fun i=>L[i]?).map (·.id)).getD 0
theorem af4 {L:List ao}(hV:VH L){y:ao}(hy:y ∈ L){b:List Int}(h:iH y.bytes b=true):mU L b=y.id:=by
 have e:y.bytes=b:=by simpa [iH] using h
 subst e;obtain⟨i,h1,h2⟩:=hV.kf hy;simp[mU,h1,h2]
theorem asv {L:List ao}{b:List Int}(h:∀y,y ∈ L→iH y.bytes b=false):Sp.kf L b=none:=List.findIdx?_eq_none_iff.2 (fun y hy=>by simpa using h y hy)
theorem af3 {L:List ao}{b:List Int}(h:∀y,y ∈ L→iH y.bytes b=false):mU L b=0:=by simp[mU,asv h]
theorem af2 {L:List ao}(hV:VH L){b:List Int}(h:mU L b≠0):∃i x,Sp.kf L b=some i∧L[i]? = some x∧mU L b=x.id:=by
 unfold mU at h ⊢;cases e:Sp.kf L b with
 | none=>simp[e]at h
 | some i =>
  simp only[e,Option.bind_some]at h ⊢;cases e2:L[i]? with
  | none=>simp[e2]at h
  | some x=>exact⟨i,x,rfl,e2,rfl⟩
theorem af0 {L:List ao}(hV:VH L){b:List Int}(h:mU L b=0):Sp.kf L b=none:=by
 cases e:Sp.kf L b with
 | none=>rfl
 | some i =>
  have hl:=(List.findIdx?_eq_some_iff_getElem.1 e).1;have:=hV.at (i:=i) (x:=L[i]) (by simp[hl]);simp[mU,e,hl]at h;omega
theorem af1 {L:List ao}(hV:VH L)(b:List Int):0≤mU L b∧mU L b≤99:=by
 unfold mU;cases e:(Sp.kf L b).bind (fun i=>L[i]?) with
 | none=>simp
 | some x =>
  obtain⟨i,h1,h2⟩:=Option.bind_eq_some_iff.1 e;have:=hV.at h2;simp;omega
theorem awh {L:List ao}{id:Int}(h:(cE L id).bh≠0):(Sp.bZ L id).isSome=true:=by
 cases e:(Sp.bZ L id).isSome with
 | true=>rfl
 | false=>rw[AQ e]at h;simp at h
theorem awg {L:List ao}(hV:VH L){id:Int}(h:(cE L id).bh=0):(Sp.bZ L id).isSome=false:=by
 cases e:(Sp.bZ L id).isSome with
 | false=>rfl
 | true=>have:=rQ hV e;omega
theorem aaD {L:List ao}(b:List Int){k:Nat}(hk:iA L=k+1):(jV L ⟨(k:Int)+1,b,1⟩).Perm (ri L b):=by
 have e:(iA L:Int)=(k:Int)+1:=by omega
 have h1:jV L ⟨(k:Int)+1,b,1⟩=L++[⟨(k:Int)+1,b,1⟩]:=by
  simp only[jV];rw[←e,L_]
 rw[h1,Jz,←e];exact(insert_perm (rc L) _ L).symm
theorem BH {L:List ao}{ids:List Int}{k:Nat}{id:Int}(hz:ids[k]? = some id)(h:(Sp.bZ L id).isSome=true):nW L ids k= !(decide (k+1<ids.length)&&decide ((cE L id).bytes.length<8)):=by
 obtain⟨i,h1,h2,_⟩:=get_some h;simp[nW,hz,h1,h2]
theorem Jp {L:List ao}{ids:List Int}{k:Nat}{id:Int}(hz:ids[k]? = some id)(h:(Sp.bZ L id).isSome=false):nW L ids k=false:=by
 have:Sp.bZ L id=none:=by simpa using h
 simp[nW,hz,this]
theorem YF {L:List ao}{ids:List Int}{k:Nat}(hk:k<ids.length)(h:nW L ids k=false):dh L ids=false:=by rw[dh,mJ hk h];rfl
theorem aq4 {L:List ao}{ids:List Int}(h:4<ids.length):dh L ids=false:=by
 have:¬ids.length≤4:=by omega
 simp[dh,this]
theorem zM {L:List ao}{ids:List Int}(h:∀j,j<ids.length→nW L ids j=true)(hl:ids.length≤4):dh L ids=true:=by rw[dh,Au h];simp[hl]
theorem xE {L:List ao}{ids:List Int}(h:dh L ids=true):ids.length≤4:=by simp[dh]at h;omega
theorem wP {b:List Int}(h:fV b=true):1≤b.length∧b.length≤8:=by
 simp only[fV,Bool.and_eq_true,ff,decide_eq_true_eq]at h;omega
def load (L:List ao)(ids:List Int):List Int:=(ids.map<|fun id=>(cE L id).bytes).flatten
theorem JG {L:List ao}{ids:List Int}{k:Nat}{id:Int}(h:ids[k]? = some id):load L (ids.take<|k+1)=load L (ids.take k)++(cE L id).bytes:=by
 simp[load,gZ h]
theorem C8 {L:List ao}(hV:VH L)(id:Int):(cE L id).bytes.length≤8:=by
 cases e:(Sp.bZ L id).isSome with
 | true=>exact(wP (rQ hV e).2.1).2
 | false=>rw[AQ e];simp
theorem JF {L:List ao}(hV:VH L):∀ids:List Int,(load L ids).length≤8*ids.length
 | []=>by simp[load]
 | id::r=>by
  have ih:=JF hV r;have:(cE L id).bytes.length≤8:=by
   cases e:(Sp.bZ L id).isSome with
   | true=>exact(wP (rQ hV e).2.1).2
   | false=>rw[AQ e];simp
  simp only[load,List.map_cons,List.flatten_cons,List.length_append,List.length_cons]at ih ⊢;omega
def tR (b:List Int)(p:Nat):List Int:=(b.drop p).take<|min (p+8) b.length-p
theorem atg (b:List Int)(k:Nat):tR b (min (8*k+8) b.length)=chunk b (k+1):=by
 unfold tR chunk;by_cases h:8*k+8≤b.length
 ·rw[Nat.min_eq_left h,show 8*(k+1)=8*k+8 by omega]
 ·rw[show min (8*k+8) b.length=b.length by omega,List.drop_of_length_le<|Nat.le_refl _,List.drop_of_length_le<|by omega];simp
theorem ath (b:List Int):tR b 0=chunk b 0:=by simp[tR,chunk]
theorem AE (b:List Int)(k:Nat):(chunk b k).length=min (8*k+8) b.length-8*k:=by
 simp[chunk];omega
theorem TS {b:List Int}(h:jz b=true){k:Nat}(hk:0<(chunk b k).length):fV (chunk b k)=true:=by
 have hl:=AE b k;simp only[jz,Bool.and_eq_true,List.all_eq_true]at h;have h1:(chunk b k).all mS=true:=by
  rw[List.all_eq_true];intro x hx;exact h.1 x<|List.mem_of_mem_drop<|List.mem_of_mem_take hx
 simp only[fV,h1,Bool.true_and,ff];simp;omega
theorem TT {b:List Int}{k:Nat}(hk:0<(chunk b k).length):(kL b)[k]? = some (chunk b k):=by
 have hl:=AE b k;have:k<(b.length+7) / 8:=by omega
 simp[kL,this]
theorem aek {b:List Int}{k:Nat}(hk:(chunk b k).length≤0):(kL b).length≤k:=by
 have hl:=AE b k;simp[kL];omega
theorem adi:VH []:=⟨.nil,.nil,by simp,by simp⟩
theorem VH.take {L:List ao}(h:VH L)(k:Nat):VH (L.take k) :=
 ⟨h.d_.sublist<|List.take_sublist k L,h.yt.sublist<|List.take_sublist k L,fun x hx=>h.ok x<|List.mem_of_mem_take hx,by have:=h.len;simp;omega⟩
theorem awe {L:List ao}(h:VH L){k:Nat}{z:ao}(hz:L[k]? = some z):jV (L.take k) z=L.take (k+1):=by
 have:Sp.bZ (L.take k) z.id=none:=by
  cases e:Sp.bZ (L.take k) z.id with
  | none=>rfl
  | some i =>
   obtain⟨y,hy,hid⟩:=Fw.sU e;rw[List.getElem?_take]at hy;split at hy
   ·rename_i ef;have h1:=List.getElem?_eq_some_iff.1 hy;have h2:=List.getElem?_eq_some_iff.1 hz;have:=List.pairwise_iff_getElem.1 h.d_ i k h1.1 h2.1 ef;rw[h1.2,h2.2]at this;omega
   ·cases hy
 simp only[jV,this];rw[gZ hz]
theorem get_at {L:List ao}(h:VH L){k:Nat}{z:Int}(hz:(L.map (·.id))[k]? = some z):L[k]? = some ⟨z,(cE L z).bytes,(cE L z).bh⟩:=by
 rw[List.getElem?_map]at hz;cases e:L[k]? with
 | none=>simp[e]at hz
 | some y =>
  simp only[e,Option.map_some,Option.some.injEq]at hz;subst hz;rw[HV (h.bZ e) e]
end Sp
namespace Fw
open Go
section ops
variable {P:Program} {n:Nat} {L:br} {ds:List Deferred} {w w0:World} {G:PH} {B:List aW}
variable {ty:TypeId} {ps:String} {af:Array Edge}
theorem awD {d:Nat}{t e:TypeId}{x y z:Operand}{a:Option Addr}{m c sz i j:Nat}{p q:Int}(hU:P.underlying t=some (.slice e))(hS:∀w,(Go.sizeOf e).run P w= .ok sz w)(hx:od L x=some (.slice a m c))
  (hy:od L y=some (.int .i64 p)) (hz:od L z=some (.int .i64 q)) (hp:p=i) (hq:q=j) (h1:i≤j) (h2:j≤c):eK P n L ds w (⟨some d,.slice t x (some y) (some z) none,ty,ps,af,none⟩) (.slice (if c=i then a else a.map (·.add (i*sz))) (j-i)<|c-i) :=
 fun b hb=>by
  subst hp hq;simp[execOp,hb.eval hx,hb.eval hy,hb.eval hz,Instr.sliceAt,Instr.slice,run_underlying hU,Instr.sliceBounds,Instr.sliceBound,asIntOf,hS,h1,h2]
theorem abJ {d:Nat}{x y:Operand}{t u e:TypeId}{p:Option Addr}(hU:P.underlying t=some (.pointer e))(hx:od L x=some (.pointer p))(hy:od L y=some (.pointer none)):eK P n L ds w (⟨some d,.binOp .neq t x y u,ty,ps,af,none⟩) (.bool<|!p.isNone) :=
 fun f ha=>by
  have h1:(binOp .neq t (.pointer p)<|.pointer none).run P w= .ok (.bool<|!p.isNone) w:=run_neq_pointer_nil w t p (by simp[Program.pointee,hU]);simp[execOp,ha.eval hx,ha.eval hy,Mg,h1]
end ops
def eY {α:Type}(E:Fr→α→List Value→Prop)(sz:Nat)(cells:List Value)(xs:List α)(F:Fr):Prop :=
 ∃(bu:List (List Value)) (Fs:List Fr),cells=bu.flatten∧F=Fs.flatten∧bu.length=xs.length∧Fs.length=xs.length∧∀(i:Nat) (x:α),xs[i]? = some x→∃cs Fi,bu[i]? = some cs∧Fs[i]? = some Fi∧cs.length=sz∧E Fi x cs
theorem eY.nil {α:Type}{E:Fr→α→List Value→Prop}{sz:Nat}:eY E sz [] ([]:List α) []:=⟨[],[],rfl,rfl,rfl,rfl,by simp⟩
theorem eY.app {α:Type}{E:Fr→α→List Value→Prop}{sz:Nat}{c c':List Value}{xs ys:List α}{F F':Fr}(h:eY E sz c xs F)(k:eY E sz c' ys F'):eY E sz (c++c') (xs++ys) (F++F'):=by
 obtain⟨bu,Fs,rfl,rfl,h3,h4,h5⟩:=h;obtain⟨aeX,Fs',rfl,rfl,k3,k4,k5⟩:=k;refine⟨bu++aeX,Fs++Fs',by simp,by simp,by simp[h3,k3],by simp[h4,k4],fun i x hx=>?_⟩;by_cases hi:i<xs.length
 ·rw[List.getElem?_append_left hi]at hx;obtain⟨cs,Fi,e1,e2,e3⟩:=h5 i x hx;exact⟨cs,Fi,by rw[List.getElem?_append_left<|by omega];exact e1,by rw[List.getElem?_append_left<|by omega];exact e2,e3⟩
 ·rw[List.getElem?_append_right<|by omega]at hx;obtain⟨cs,Fi,e1,e2,e3⟩:=k5 _ x hx;exact⟨cs,Fi,by rw[List.getElem?_append_right<|by omega,h3];exact e1,by rw[List.getElem?_append_right<|by omega,h4];exact e2,e3⟩
theorem eY.one {α:Type}{E:Fr→α→List Value→Prop}{sz:Nat}{cs:List Value}{x:α}{F:Fr}(h:E F x cs)(hl:cs.length=sz):eY E sz cs [x] F:=⟨[cs],[F],by simp,by simp,rfl,rfl,by
 intro i y hy
 cases i with
 | zero=>simp at hy;subst hy;exact⟨cs,F,rfl,rfl,hl,h⟩
 | succ i=>simp at hy⟩
theorem eY.snoc {α:Type}{E:Fr→α→List Value→Prop}{sz:Nat}{c cs:List Value}{xs:List α}{x:α}{F F':Fr}(h:eY E sz c xs F)(hx:E F' x cs)(hl:cs.length=sz):eY E sz (c++cs) (xs++[x]) (F++F'):=h.app<|eY.one hx hl
theorem U8 {α:Type}{sz:Nat}:∀(bu:List (List α)),(∀c,c ∈ bu→c.length=sz)→bu.flatten.length=bu.length*sz
 | [],_=>by simp
 | c::r,h=>by
  simp only[List.flatten_cons,List.length_append,h c<|by simp,U8 r<|fun d hd=>h d<|by simp[hd],List.length_cons,Nat.add_mul,Nat.one_mul];omega
theorem eY.GK {α:Type}{E:Fr→α→List Value→Prop}{sz:Nat}{bu:List (List Value)}{Fs:List Fr}{xs:List α}(h3:bu.length=xs.length)(h5:∀(i:Nat) (x:α),xs[i]? = some x→∃cs Fi,bu[i]? = some cs∧Fs[i]? = some Fi∧cs.length=sz∧E Fi x cs):∀c,c ∈ bu→c.length=sz:=by
 intro c hc;obtain⟨j,hj⟩:=List.getElem?_of_mem hc;have ig:=(List.getElem?_eq_some_iff.1 hj).1;obtain⟨eR,_,e1,_,e2,_⟩:=h5 j xs[j] (by simp);rw[hj]at e1;simp at e1;rw[e1];exact e2
theorem eY.length {α:Type}{E:Fr→α→List Value→Prop}{sz:Nat}{c:List Value}{xs:List α}{F:Fr}(h:eY E sz c xs F):c.length=xs.length*sz:=by
 obtain⟨bu,Fs,rfl,rfl,h3,h4,h5⟩:=h;rw[U8 bu<|eY.GK h3 h5,h3]
theorem eY.imp {α:Type}{E E':Fr→α→List Value→Prop}{sz:Nat}{c:List Value}{xs:List α}{F:Fr}(h:eY E sz c xs F)(hE:∀F x cs,E F x cs→E' F x cs):eY E' sz c xs F:=by
 obtain⟨bu,Fs,h1,h2,h3,h4,h5⟩:=h;refine⟨bu,Fs,h1,h2,h3,h4,fun i x hx=>?_⟩;obtain⟨cs,Fi,e1,e2,e3,e4⟩:=h5 i x hx;exact⟨cs,Fi,e1,e2,e3,hE _ _ _ e4⟩
def cz {α:Type}(E:Fr→α→List Value→Prop)(sz:Nat)(e:TypeId)(F:Fr)(v:Value)(xs:List α):Prop :=
 xs.length≤1099511627776∧((v= .slice none 0 0∧xs=[]∧F=[]) ∨
  ∃b cap C cells F',v= .slice (some ⟨b,0,none⟩) xs.length cap∧xs.length≤cap∧cap≤maxLen∧F=(b,.cells C e (0,0))::F'∧cap*sz≤C.size∧C.toList.take (xs.length*sz)=cells∧eY E sz cells xs F')
def QI:Fr→Int→List Value→Prop:=fun F x cs=>F=[]∧c8 (fun _=>none) x cs
abbrev OI (F:Fr) (v:Value) (xs:List Int):Prop:=∃e,cz QI 1 e F v xs
def y_:Fr→ao→List Value→Prop:=fun F x cs=>∃a m c,cs=[.int .i64 x.id,.slice a m c,.int .i64 x.bh]∧dH x.id∧OI F (.slice a m c) x.bytes∧dH x.bh
def zO:Fr→aj→List Value→Prop:=fun F x cs=>∃a m c,cs=[str x.path,.bool x.dir,.slice a m c]∧x.path.length≤16777216∧OI F (.slice a m c) x.ids
abbrev jJ (F:Fr) (v:Value) (xs:List ao):Prop:=∃e,cz y_ 3 e F v xs
abbrev eJ (F:Fr) (v:Value) (xs:List aj):Prop:=∃e,cz zO 3 e F v xs
def sL:Fr→cG→List Value→Prop:=fun F x cs=>∃a m c,cs=[str x.name,.slice a m c]∧x.name.length≤16777216∧eJ F (.slice a m c) x.tree
abbrev jX (F:Fr) (v:Value) (xs:List cG):Prop:=∃e,cz sL 2 e F v xs
section
variable {w0 w w':World} {G0 G G':PH} {S:List Nat} {B Bs:List aW}
theorem j0 (H:Hp w0 G0 S w G B){k:Nat}{F:Fr}(hk:nth B k=some (aA F)):(dm F).Nodup:=by
 obtain⟨B1,B2,h1,_,_⟩:=pd hk;have:=H.nd;rw[h1]at this;simp only[aV,List.flatMap_append,List.flatMap_cons]at this;exact(List.nodup_append.1 (List.nodup_append.1 this).2.1).1
theorem Vd {F F':Fr}{h:Nat→Option Obj}(hn:(dm<|F++F').Nodup):(aA<|F++F').pred h↔(aA F).pred h∧(aA F').pred h:=by
 constructor
 ·intro hp;refine⟨fun b o hb=>hp b o<|CM F F' b o hb,fun b o hb=>hp b o<|CN (fun c h1 h2=>?_) b o hb⟩;rw[pU]at hn;exact(List.nodup_append.1 hn).2.2 c h1 c h2 rfl
 ·rintro⟨h1,h2⟩ b o hb;rw[HG]at hb;cases e:fh F b with
  | some o'=>rw[e]at hb;simp at hb;subst hb;exact h1 b o' e
  | none=>rw[e]at hb;simp at hb;exact h2 b o hb
theorem Hp.mf {F F':Fr}(H:Hp w0 G0 S w G (aA F::aA F'::B)):Hp w0 G0 S w G (aA (F++F')::B):=by
 have hn:=H.nd;have e:aV (aA F::aA F'::B)=aV (aA (F++F')::B):=by
  show dm F++(dm F'++aV B)=dm (F++F')++aV B;rw[pU,List.append_assoc]
 rw[e]at hn;have xn:(dm<|F++F').Nodup:=(List.nodup_append.1 hn).1;refine⟨H.os,H.tape,H.output,H.size,H.ext,H.sub,H.le,H.cO,?_,hn⟩;intro r hr;rcases List.mem_cons.1 hr with rfl|hr
 ·refine⟨(Vd xn).2 ⟨(H.own (aA F)<|by simp).1,(H.own (aA F')<|by simp).1⟩,fun b hb=>?_⟩;have:b ∈ dm F++dm F':=by rw[←pU];exact hb
  rcases List.mem_append.1 this with h|h
  ·exact(H.own (aA F)<|by simp).2 b h
  ·exact(H.own (aA F')<|by simp).2 b h
 ·exact H.own r (by simp[hr])
theorem Hp.GI {F F':Fr}(H:Hp w0 G0 S w G (aA (F++F')::B)):Hp w0 G0 S w G (aA F::aA F'::B):=by
 have hn:=H.nd;have xn:(dm<|F++F').Nodup:=(List.nodup_append.1 hn).1;have e:aV (aA F::aA F'::B)=aV (aA (F++F')::B):=by
  show dm F++(dm F'++aV B)=dm (F++F')++aV B;rw[pU,List.append_assoc]
 have h0:=H.own (aA<|F++F') (by simp);have hp:=(Vd xn).1 h0.1;refine⟨H.os,H.tape,H.output,H.size,H.ext,H.sub,H.le,H.cO,?_,by rw[e];exact hn⟩;intro r hr;rcases List.mem_cons.1 hr with rfl|hr
 ·exact⟨hp.1,fun b hb=>h0.2 b<|by show b ∈ dm (F++F');rw[pU];exact List.mem_append.2<|.inl hb⟩
 ·rcases List.mem_cons.1 hr with rfl|hr
  ·exact⟨hp.2,fun b hb=>h0.2 b<|by show b ∈ dm (F++F');rw[pU];exact List.mem_append.2<|.inr hb⟩
  ·exact H.own r (by simp[hr])
theorem Hp.fb (H:Hp w0 G0 S w G B):Hp w0 G0 S w G (aA []::B):=H.add (Ext.refl w) (aA []) (fun b o h=>by simp[fh]at h) (by simp[aA,dm]) (by simp[aA,dm])
theorem Hp.BZ {α:Type}{E:Fr→α→List Value→Prop}{e:TypeId}{sz:Nat}{v:Value}{n:Nat}{cells:List Value}{xs:List α}{F:Fr}(H:Hp w0 G0 S w G (acc e sz v n cells::aA F::B))(hc:eY E sz cells xs F)(hn:n=xs.length)(hl:xs.length≤1099511627776) :
  ∃F',Hp w0 G0 S w G (aA F'::B)∧cz E sz e F' v xs:=by
 subst hn;have h0:=H.own (acc e sz v xs.length cells) (by simp);obtain⟨⟨h1,h2⟩,h3⟩:=h0;rcases h2 with ⟨rfl,hx⟩|⟨b,cap,C,rfl,g1,g2,g3,g4,g5⟩
 ·have Fx:xs=[]:=List.eq_nil_of_length_eq_zero hx;subst Fx;obtain⟨bu,Fs,_,rfl,_,hFs,_⟩:=hc;have:Fs=[]:=List.eq_nil_of_length_eq_zero (by simpa using hFs);subst this;exact⟨[],H.del (k:=0) rfl,by simp,.inl ⟨rfl,rfl,rfl⟩⟩
 ·have e1:(acc e sz (.slice (some ⟨b,0,none⟩) xs.length cap) xs.length cells).fp=[b]:=rfl;refine⟨(b,.cells C e (0,0))::F,?_,hl,.inr ⟨b,cap,C,cells,F,rfl,g2,g3,rfl,g4,g5,hc⟩⟩
  have H1:Hp w0 G0 S w G (aA [(b,.cells C e (0,0))]::aA F::B):=H.upd (k:=0) rfl rfl rfl rfl (Nat.le_refl _) (fun _ _ _=>rfl) (aA [(b,.cells C e (0,0))]) (by
   intro c o hc;simp only[fh]at hc;split at hc
   ·next e'=>subst e';simp at hc;subst hc;exact g1
   ·cases hc) (fun c hc=>by
   left;rw[e1];simpa [aA,dm] using hc) (by simp[aA,dm])
  exact H1.mf
theorem aeh {G:PH}{c:List Value}{xs:List Int}(h:ay c8 1 G c xs):eY QI 1 c xs []:=by
 obtain⟨bu,h1,h2,h3⟩:=h;refine⟨bu,List.replicate xs.length [],h1,by simp,h2,by simp,fun i x hx=>?_⟩;obtain⟨cs,e1,e2,e3⟩:=h3 i x hx;have hi:=(List.getElem?_eq_some_iff.1 hx).1;exact⟨cs,[],e1,by simp[hi],e2,rfl,e3⟩
theorem Hp.R3 (H:Hp w0 G0 S w G B){k:Nat}{e:TypeId}{v:Value}{n:Nat}{cells:List Value}{xs:List Int}(hk:nth B k=some (acc e 1 v n cells))(hc:ay c8 1 G cells xs)(hn:n=xs.length)(hl:xs.length≤1099511627776) :
  ∃F,Hp w0 G0 S w G (aA F::ez B k)∧OI F v xs:=by
 have H1:=H.x3 hk;have H2:Hp w0 G0 S w G (acc e 1 v n cells::aA []::ez B k):=(H1.fb).ub;obtain⟨F,H3,h⟩:=H2.BZ (aeh hc) hn hl;exact⟨F,H3,e,h⟩
theorem Hp.j_ (H:Hp w0 G0 S w G B){k:Nat}{F:Fr}(hk:nth B k=some (aA F))(hS:∀b,b ∈ dm F→b ∉ S):∃G',Hp w0 G0 S w G' (ez B k)∧an G G'∧an (fh F) G':=by
 obtain⟨H',hp⟩:=H.BL hk hS;exact⟨_,H',cW.le _ _ _,fun b o hb=>hp b o hb⟩
end
theorem eY.rd {α:Type}{E:Fr→α→List Value→Prop}{E':PH→α→List Value→Prop}{sz:Nat}{c:List Value}{xs:List α}{F:Fr}{G:PH}(h:eY E sz c xs F)(hle:an (fh F) G)(hn:(dm F).Nodup)(hE:∀F' x cs,an (fh F') G→(dm F').Nodup→E F' x cs→E' G x cs):ay E' sz G c xs:=by
 obtain⟨bu,Fs,h1,rfl,h3,h4,h5⟩:=h;refine⟨bu,h1,h3,fun i x hx=>?_⟩;obtain⟨cs,Fi,e1,e2,e3,e4⟩:=h5 i x hx;have key:∀(Fs:List Fr) (i:Nat) (Fi:Fr),Fs[i]? = some Fi→(dm Fs.flatten).Nodup→an (fh Fi) (fh Fs.flatten)∧(dm Fi).Nodup:=by
  intro Fs;induction Fs with
  | nil=>intro i Fi h;simp at h
  | cons F0 r ih =>
   intro i Fi h hn;simp only[List.flatten_cons,pU]at hn ⊢;obtain⟨n1,n2,n3⟩:=List.nodup_append.1 hn;cases i with
   | zero=>simp only[List.getElem?_cons_zero,Option.some.injEq]at h;subst h;exact⟨CM _ _,n1⟩
   | succ i =>
    simp only[List.getElem?_cons_succ]at h;obtain⟨i1,i2⟩:=ih i Fi h n2;exact⟨i1.trans<|CN<|fun b h1 h2=>n3 b h1 b h2 rfl,i2⟩
 obtain⟨k1,k2⟩:=key Fs i Fi e2 hn;exact⟨cs,e1,e3,hE Fi x cs (k1.trans hle) k2 e4⟩
theorem cz.rd {α:Type}{E:Fr→α→List Value→Prop}{E':PH→α→List Value→Prop}{sz:Nat}{e:TypeId}{F:Fr}{v:Value}{xs:List α}{G:PH}(h:cz E sz e F v xs)(hle:an (fh F) G)(hn:(dm F).Nodup)(hE:∀F' x cs,an (fh F') G→(dm F').Nodup→E F' x cs→E' G x cs):aU iN E' sz G v xs:=by
 obtain⟨hl,h⟩:=h;rcases h with ⟨rfl,rfl,rfl⟩|⟨b,cap,C,cells,F',rfl,g2,g3,rfl,g4,g5,hc⟩
 ·exact aU.nil _ _ _
 ·have qc:b ∉ dm F'∧(dm F').Nodup:=by simpa [dm] using hn
  have ajH:an (fh F') G:=fun c o hc=>hle c o (by
   have:¬b=c:=fun e=>qc.1 (by rw[e];exact yx hc);simp[fh,this,hc])
  have hck:=hc.rd ajH qc.2 hE;refine⟨some ⟨b,0,none⟩,cap,rfl,g2,hl,.inr ⟨b,0,rfl,fun i x hx=>?_⟩⟩;obtain⟨cs,c1,c2,c3⟩:=hck.get i x hx;refine⟨cs,c1,c2,fun j u hu=>⟨C,e,(0,0),hle b _<|by simp[fh],?_⟩⟩;have h1:=c3 j u hu;rw[←g5,List.getElem?_take]at h1;split at h1
  ·rw[Nat.zero_add];simpa using h1
  ·cases h1
theorem OI.rd {F:Fr}{v:Value}{xs:List Int}{G:PH}(h:OI F v xs)(hle:an (fh F) G)(hn:(dm F).Nodup):dv G v xs:=let ⟨_,h⟩:=h;h.rd hle hn (fun _ _ _ _ _ h=>h.2)
theorem y_.rd {F:Fr}{x:ao}{cs:List Value}{G:PH}(h:y_ F x cs)(hle:an (fh F) G)(hn:(dm F).Nodup):dx G x cs:=by
 obtain⟨a,m,c,rfl,h1,h2,h3⟩:=h;exact⟨a,m,c,rfl,h1,h2.rd hle hn,h3⟩
theorem zO.rd {F:Fr}{x:aj}{cs:List Value}{G:PH}(h:zO F x cs)(hle:an (fh F) G)(hn:(dm F).Nodup):dn G x cs:=by
 obtain⟨a,m,c,rfl,h1,h2⟩:=h;exact⟨a,m,c,rfl,h1,h2.rd hle hn⟩
theorem jJ.rd {F:Fr}{v:Value}{xs:List ao}{G:PH}(h:jJ F v xs)(hle:an (fh F) G)(hn:(dm F).Nodup):di G v xs:=let ⟨_,h⟩:=h;h.rd hle hn (fun _ _ _ h1 h2 h=>y_.rd h h1 h2)
theorem eJ.rd {F:Fr}{v:Value}{xs:List aj}{G:PH}(h:eJ F v xs)(hle:an (fh F) G)(hn:(dm F).Nodup):cL G v xs:=let ⟨_,h⟩:=h;h.rd hle hn (fun _ _ _ h1 h2 h=>zO.rd h h1 h2)
theorem sL.rd {F:Fr}{x:cG}{cs:List Value}{G:PH}(h:sL F x cs)(hle:an (fh F) G)(hn:(dm F).Nodup):iK G x cs:=by
 obtain⟨a,m,c,rfl,h1,h2⟩:=h;exact⟨a,m,c,rfl,h1,h2.rd hle hn⟩
theorem jX.rd {F:Fr}{v:Value}{xs:List cG}{G:PH}(h:jX F v xs)(hle:an (fh F) G)(hn:(dm F).Nodup):gx G v xs:=let ⟨_,h⟩:=h;h.rd hle hn (fun _ _ _ h1 h2 h=>sL.rd h h1 h2)
theorem cz.shape {α:Type}{E:Fr→α→List Value→Prop}{sz:Nat}{e:TypeId}{F:Fr}{v:Value}{xs:List α}(h:cz E sz e F v xs):∃a c,v= .slice a xs.length c:=by
 obtain⟨_,⟨rfl,rfl,_⟩|⟨b,cap,_,_,_,rfl,_⟩⟩:=h
 ·exact⟨none,0,rfl⟩
 ·exact⟨_,cap,rfl⟩
end Fw
namespace Fw
inductive Nd where
 | mk (b:Nat) (name:Bs) (dir:Bool) (ids:List Int) (kids:List Nd)
namespace Nd
def b:Nd→Nat| .mk b _ _ _ _=>b
def name:Nd→Bs| .mk _ n _ _ _=>n
def dir:Nd→Bool| .mk _ _ d _ _=>d
def ids:Nd→List Int| .mk _ _ _ i _=>i
def kids:Nd→List Nd| .mk _ _ _ _ k=>k
theorem eta:∀t:Nd,t= .mk t.b t.name t.dir t.ids t.kids| .mk _ _ _ _ _=>rfl
mutual
def size:Nd→Nat| .mk _ _ _ _ ks=>t_ ks+1
def t_:List Nd→Nat|[]=>0|k::r=>size k+t_ r
end
mutual
def cnt:Nd→Nat| .mk _ _ _ _ ks=>jZ ks
def jZ:List Nd→Nat|[]=>0|k::r=>cnt k+1+jZ r
end
mutual
def flat (s:Bs):Nd→List aj| .mk _ _ _ _ ks=>io s ks
def io (s:Bs):List Nd→List aj|[]=>[]|k::r=>⟨s++k.name,k.dir,k.ids⟩::(flat (s++k.name++[47]) k++io s r)
end
def c_ (t:Nd)(n:Bs):Option Nd:=t.kids.find?<|fun k=>decide (k.name=n)
def at_:Nd→List Bs→Option Nd
 | t,[]=>some t
 | t,n::r=>match t.c_ n with
  | some k=>at_ k r
  | none=>none
mutual
def wf:Nd→Prop| .mk _ _ _ _ ks=>ks.Pairwise (fun a b=>Sp.lt a.name b.name=true)∧x6 ks
def x6:List Nd→Prop|[]=>True|k::r=>(Sp.ep k.name=true∧wf k)∧x6 r
end
theorem kz (t:Nd):t.wf↔t.kids.Pairwise (fun a b=>Sp.lt a.name b.name=true)∧∀k,k ∈ t.kids→Sp.ep k.name=true∧k.wf:=by
 obtain⟨_,_,_,_,ks⟩:=t;simp only[wf,kids];have:∀l:List Nd,x6 l↔∀k,k ∈ l→Sp.ep k.name=true∧k.wf:=by
  intro l;induction l with
  | nil=>simp[x6]
  | cons a r ih=>simp only[x6,ih,List.mem_cons,forall_eq_or_imp]
 rw[this]
theorem GF {t k:Nd}(h:k ∈ t.kids):k.size<t.size:=by
 obtain⟨_,_,_,_,ks⟩:=t;simp only[kids]at h;simp only[size];have:∀l:List Nd,k ∈ l→k.size≤t_ l:=by
  intro l;induction l with
  | nil=>simp
  | cons a r ih =>
   intro h;simp only[t_];rcases List.mem_cons.1 h with rfl|h
   ·omega
   ·have:=ih h;omega
 have:=this ks h;omega
theorem size_pos (t:Nd):0<t.size:=by obtain⟨_,_,_,_,ks⟩:=t;simp only[size];omega
theorem Hq (t:Nd):t.cnt=jZ t.kids:=by obtain⟨_,_,_,_,ks⟩:=t;rfl
theorem uM (s:Bs)(t:Nd):t.flat s=io s t.kids:=by obtain⟨_,_,_,_,ks⟩:=t;rfl
theorem T6:∀a b:List Nd,jZ (a++b)=jZ a+jZ b
 | [],b=>by simp[jZ]
 | x::r,b=>by simp only[List.cons_append,jZ,T6 r b];omega
theorem U5 (s:Bs):∀a b:List Nd,io s (a++b)=io s a++io s b
 | [],b=>by simp[io]
 | x::r,b=>by simp only[List.cons_append,io,U5 s r b,List.append_assoc]
mutual
theorem uN (s:Bs):∀t:Nd,(t.flat s).length=t.cnt
 | .mk _ _ _ _ ks=>by simp only[flat,cnt];exact LZ s ks
theorem LZ (s:Bs):∀l:List Nd,(io s l).length=jZ l
 | []=>rfl
 | k::r=>by
  simp only[io,jZ,List.length_cons,List.length_append,uN (s++k.name++[47]) k,LZ s r];omega
end
end Nd
end Fw
namespace Sp
open Fw Go
theorem xI (a b:UInt8)(x y:Bs):lt (a::x) (b::y)=(decide (a<b)||(decide (a=b)&&lt x y)):=by
 simp only[lt,Op.bytesLess];congr 1
theorem lt_irrefl:∀a:Bs,lt a a=false
 | []=>rfl
 | x::r=>by rw[xI,lt_irrefl r];simp
theorem lt_trans:∀{a b c:Bs},lt a b=true→lt b c=true→lt a c=true
 | _,_,[],_,h=>by simp[lt,Op.bytesLess]at h
 | [],_,_::_,_,_=>rfl
 | x::a,[],_::_,h,_=>by simp[lt,Op.bytesLess]at h
 | x::a,y::b,z::c,h,k=>by
  rw[xI]at h k ⊢;simp only[Bool.or_eq_true,decide_eq_true_eq,Bool.and_eq_true]at h k ⊢;rcases h with h|⟨rfl,h⟩
  ·rcases k with k|⟨rfl,k⟩
   ·exact .inl<|UInt8.lt_trans h k
   ·exact .inl h
  ·rcases k with k|⟨rfl,k⟩
   ·exact .inl k
   ·exact .inr ⟨rfl,lt_trans h k⟩
theorem xJ:∀a b:Bs,lt a b=true∨a=b∨lt b a=true
 | [],[]=> .inr<|.inl rfl
 | [],_::_=> .inl rfl
 | _::_,[]=> .inr<|.inr rfl
 | x::a,y::b=>by
  rw[xI,xI];simp only[Bool.or_eq_true,decide_eq_true_eq,Bool.and_eq_true,List.cons.injEq];rcases Nat.lt_trichotomy x.toNat y.toNat with h|h|h
  ·exact .inl<|.inl<|UInt8.lt_iff_toNat_lt.2 h
  ·have e:x=y:=UInt8.toNat_inj.1 h;rcases xJ a b with g|g|g
   ·exact .inl<|.inr ⟨e,g⟩
   ·exact .inr<|.inl ⟨e,g⟩
   ·exact .inr<|.inr<|.inr ⟨e.symm,g⟩
  ·exact .inr<|.inr<|.inl<|UInt8.lt_iff_toNat_lt.2 h
theorem nY {a b:Bs}(h:lt a b=true):a≠b:=fun e=>by rw[e,lt_irrefl]at h;cases h
theorem lt_asymm {a b:Bs}(h:lt a b=true):lt b a=false:=by
 cases e:lt b a with
 | false=>rfl
 | true=>have:=lt_trans h e;rw[lt_irrefl]at this;cases this
theorem JJ:∀p a b:Bs,lt (p++a) (p++b)=lt a b
 | [],_,_=>rfl
 | x::p,a,b=>by rw[List.cons_append,List.cons_append,xI,JJ p a b];simp
theorem Rq {p s:Bs}(h:s≠[]):lt p (p++s)=true:=by
 have:=JJ p [] s;rw[List.append_nil]at this;rw[this];cases s with
 | nil=>exact absurd rfl h
 | cons x r=>rfl
def abq (u:Bs):Prop:=u=[]∨∃v,u=47::v
theorem Rr:∀{n1 n2:Bs},n2.all low=true→lt n1 n2=true→∀{s1 s2:Bs},abq s1→lt (n1++s1) (n2++s2)=true
 | _,[],_,h,_,_,_=>by simp[lt,Op.bytesLess]at h
 | [],c::r,hl,_,s1,s2,hs=>by
  rcases hs with rfl|⟨v,rfl⟩
  ·rfl
  ·simp only[List.nil_append,List.cons_append,xI];have:(47:UInt8)<c:=by
    simp only[List.all_cons,Bool.and_eq_true,low,decide_eq_true_eq]at hl;rw[UInt8.lt_iff_toNat_lt];have:(47:UInt8).toNat=47:=rfl;omega
   simp[this]
 | a::n1,c::n2,hl,h,s1,s2,hs=>by
  rw[xI]at h;simp only[List.cons_append,xI];simp only[Bool.or_eq_true,decide_eq_true_eq,Bool.and_eq_true]at h ⊢;rcases h with h|⟨rfl,h⟩
  ·exact .inl h
  ·simp only[List.all_cons,Bool.and_eq_true]at hl;exact .inr ⟨rfl,Rr hl.2 h hs⟩
theorem GR {n:Bs}(h:ep n=true):n.all low=true:=by simp only[ep,Bool.and_eq_true]at h;exact h.1.1
theorem ab0 {n:Bs}(h:ep n=true):n≠[]:=by rintro rfl;simp[ep]at h
theorem JH {n:Bs}(h:n.all low=true):(47:UInt8) ∉ n:=fun hm=>by
 have:=List.all_eq_true.1 h 47 hm;simp[low]at this
def join:List Bs→Bs
 | []=>[]
 | [n]=>n
 | n::r=>n++47::join r
theorem join_cons (n:Bs){r:List Bs}(h:r≠[]):join (n::r)=n++47::join r:=by
 cases r with
 | nil=>exact absurd rfl h
 | cons m q=>rfl
theorem CC:∀{n:Bs},(47:UInt8) ∉ n→cut n=[n]
 | [],_=>rfl
 | x::r,h=>by
  simp only[List.mem_cons,not_or]at h;have e:¬x=47:=fun e=>h.1 e.symm;simp only[cut,e,if_false,CC h.2]
theorem Up:∀{n:Bs} (s:Bs),(47:UInt8) ∉ n→cut (n++47::s)=n::cut s
 | [],s,_=>by simp[cut]
 | x::r,s,h=>by
  simp only[List.mem_cons,not_or]at h;have e:¬x=47:=fun e=>h.1 e.symm;simp only[List.cons_append,cut,e,if_false,Up s h.2]
theorem Ht:∀{ns:List Bs},ns≠[]→(∀n,n ∈ ns→(47:UInt8) ∉ n)→cut (join ns)=ns
 | [],h,_=>absurd rfl h
 | [n],_,h=>CC (h n<|by simp)
 | n::m::r,_,h=>by
  rw[join_cons n<|by simp,Up _<|h n<|by simp,Ht (ns:=m::r) (by simp)<|fun k hk=>h k<|by simp[hk]]
theorem Jt:∀s:Bs,join (cut s)=s
 | []=>rfl
 | c::r=>by
  have ih:=Jt r;have de:=lx r;unfold cut;by_cases e:c=47
  ·simp only[e,if_true];rw[join_cons _ de,ih];rfl
  ·simp only[e,if_false];cases h:cut r with
   | nil=>exact absurd h de
   | cons w ws =>
    rw[h]at ih;cases ws with
    | nil=>simp only[join]at ih ⊢;rw[ih]
    | cons v vs=>rw[join_cons _<|by simp]at ih ⊢;rw[←ih];rfl
theorem AI {p q:Bs}(h:cut p=cut q):p=q:=by rw[←Jt p,←Jt q,h]
theorem Un:∀(s n:Bs),n ∈ cut s→(47:UInt8) ∉ n
 | [],n,h=>by simp[cut]at h;subst h;simp
 | c::r,n,h=>by
  have ih:=Un r;unfold cut at h;by_cases e:c=47
  ·simp only[e,if_true,List.mem_cons]at h;rcases h with rfl|h
   ·simp
   ·exact ih n h
  ·simp only[e,if_false]at h;cases hc:cut r with
   | nil=>exact absurd hc<|lx r
   | cons w ws =>
    rw[hc]at h ih;simp only[List.mem_cons]at h;rcases h with rfl|h
    ·simp only[List.mem_cons,not_or];exact⟨fun g=>e g.symm,ih w<|by simp⟩
    ·exact ih n (by simp[h])
end Sp
namespace Fw.Nd
open Sp
def fS (x y:aj):Prop:=lt x.path y.path=true
theorem Zw {k:Nd}(h:ep k.name=true):k.name.all low=true:=GR h
theorem AN {s:Bs}:∀{l:List Nd} {x:aj},x ∈ io s l→∃k,k ∈ l∧∃u,x.path=s++(k.name++u)∧abq u
 | [],x,h=>by simp[io]at h
 | k::r,x,h=>by
  simp only[io,List.mem_cons,List.mem_append]at h;rcases h with rfl|h|h
  ·exact⟨k,by simp,[],by simp,.inl rfl⟩
  ·rw[uM]at h;obtain⟨k',_,u,e,_⟩:=AN (s:=s++k.name++[47]) (l:=k.kids) h;exact⟨k,by simp,47::(k'.name++u),by rw[e];simp,.inr ⟨_,rfl⟩⟩
  ·obtain⟨k',h1,u,h2⟩:=AN h;exact⟨k',by simp[h1],u,h2⟩
  termination_by l=>t_ l
  decreasing_by
 ·simp only[t_];obtain⟨_,_,_,_,ks⟩:=k;simp only[kids,size];omega
 ·simp only[t_];have:=size_pos k;omega
theorem L3:∀(s:Bs) (l:List Nd),l.Pairwise (fun a b=>lt a.name b.name=true)→(∀k,k ∈ l→ep k.name=true∧k.wf)→(io s l).Pairwise fS
 | s,[],_,_=>by simp[io]
 | s,k::r,hp,hw=>by
  rw[List.pairwise_cons]at hp;have hk:=hw k (by simp);have oI:=(kz k).1 hk.2;have h1:(k.flat<|s++k.name++[47]).Pairwise fS:=by
   rw[uM];exact L3 _ k.kids oI.1 oI.2
  have h2:=L3 s r hp.2 (fun q hq=>hw q<|by simp[hq]);simp only[io];rw[List.pairwise_cons,List.pairwise_append];refine⟨?_,h1,h2,?_⟩
  ·intro y hy;rcases List.mem_append.1 hy with hy|hy
   ·rw[uM]at hy;obtain⟨k',_,u,e,_⟩:=AN hy;show lt (s++k.name) y.path=true;rw[e,List.append_assoc];exact Rq (by simp)
   ·obtain⟨k',j4,u,e,hu⟩:=AN hy;show lt (s++k.name) y.path=true;rw[e,JJ];have:=Rr (Zw (hw k'<|by simp[j4]).1) (hp.1 k' j4) (s1:=[]) (s2:=u)<|.inl rfl;simpa using this
  ·intro x hx y hy;rw[uM]at hx;obtain⟨k1,_,u1,e1,_⟩:=AN hx;obtain⟨k2,jB,u2,e2,_⟩:=AN hy;show lt x.path y.path=true;rw[e1,e2,List.append_assoc,List.append_assoc,JJ];exact Rr (Zw (hw k2<|by simp[jB]).1) (hp.1 k2 jB)<|.inr ⟨_,rfl⟩
  termination_by _ l=>t_ l
  decreasing_by
 ·simp only[t_];obtain⟨_,_,_,_,ks⟩:=k;simp only[kids,size];omega
 ·simp only[t_];have:=size_pos k;omega
theorem af6 {t:Nd}(h:t.wf)(s:Bs):(t.flat s).Pairwise fS:=by
 rw[uM];exact L3 s t.kids ((kz t).1 h).1 ((kz t).1 h).2
theorem px {t k:Nd}{n:Bs}(h:t.c_ n=some k):k ∈ t.kids∧k.name=n:=⟨List.mem_of_find?_eq_some h,by have:=List.find?_some h;simpa using this⟩
theorem LX:∀{l:List Nd},l.Pairwise (fun a b=>lt a.name b.name=true)→∀{k:Nd},k ∈ l→l.find? (fun q=>decide (q.name=k.name))=some k
 | [],_,k,h=>by simp at h
 | x::r,hp,k,h=>by
  rw[List.pairwise_cons]at hp;rw[List.find?_cons];rcases List.mem_cons.1 h with rfl|h
  ·simp
  ·have:¬x.name=k.name:=nY<|hp.1 k h;simp only[this,decide_false];exact LX hp.2 h
theorem QT {t k:Nd}(h:t.wf)(hk:k ∈ t.kids):t.c_ k.name=some k:=LX ((kz t).1 h).1 hk
theorem RC {s:Bs}{t:Nd}(h:t.wf)(x:aj):x ∈ io s t.kids↔∃ns k,ns≠[]∧t.at_ ns=some k∧x=⟨s++join ns,k.dir,k.ids⟩:=by
 constructor
 ·intro hx;have key:∀l:List Nd,x ∈ io s l→∃k,k ∈ l∧(x=⟨s++k.name,k.dir,k.ids⟩∨x ∈ io (s++k.name++[47]) k.kids):=by
   intro l;induction l with
   | nil=>simp[io]
   | cons k r ih =>
    intro h;simp only[io,List.mem_cons,List.mem_append,uM]at h;rcases h with h|h|h
    ·exact⟨k,by simp,.inl h⟩
    ·exact⟨k,by simp,.inr h⟩
    ·obtain⟨k',h1,h2⟩:=ih h;exact⟨k',by simp[h1],h2⟩
  obtain⟨k,hk,hx⟩:=key _ hx;have j6:=QT h hk;rcases hx with rfl|hx
  ·exact⟨[k.name],k,by simp,by simp[at_,j6],by simp[join]⟩
  ·have ef:=GF hk;obtain⟨ns,k',de,dS,rfl⟩:=(RC (((kz t).1 h).2 k hk).2 x).1 hx;exact⟨k.name::ns,k',by simp,by simp[at_,j6,dS],by rw[join_cons _ de];simp⟩
 ·rintro⟨ns,k,de,dS,rfl⟩;cases ns with
  | nil=>exact absurd rfl de
  | cons n r =>
   simp only[at_]at dS;cases j6:t.c_ n with
   | none=>simp[j6]at dS
   | some q =>
    simp only[j6]at dS;obtain⟨hq,rfl⟩:=px j6;have ef:=GF hq;have key:∀l:List Nd,q ∈ l→⟨s++join (q.name::r),k.dir,k.ids⟩ ∈ io s l:=by
     intro l;induction l with
     | nil=>simp
     | cons a r' ih =>
      intro h';simp only[io,List.mem_cons,List.mem_append,uM];rcases List.mem_cons.1 h' with rfl|h'
      ·cases r with
       | nil =>
        simp only[at_,Option.some.injEq]at dS;subst dS;exact .inl rfl
       | cons m r2 =>
        refine .inr<|.inl ?_;refine(RC (((kz t).1 h).2 q hq).2 _).2 ⟨m::r2,k,by simp,dS,?_⟩;rw[join_cons _<|by simp];simp
      ·exact .inr<|.inr<|ih h'
    exact key _ hq
  termination_by t.size
theorem Ay {t:Nd}(h:t.wf):∀{ns:List Bs} {k:Nd},t.at_ ns=some k→k.wf∧∀n,n ∈ ns→ep n=true:=by
 intro ns;induction ns generalizing t with
 | nil=>intro k hk;simp only[at_,Option.some.injEq]at hk;subst hk;exact⟨h,by simp⟩
 | cons n r ih =>
  intro k hk;simp only[at_]at hk;cases j6:t.c_ n with
  | none=>simp[j6]at hk
  | some q =>
   simp only[j6]at hk;obtain⟨hq,rfl⟩:=px j6;have IY:=((kz t).1 h).2 q hq;obtain⟨i1,i2⟩:=ih IY.2 hk;refine⟨i1,fun m hm=>?_⟩;rcases List.mem_cons.1 hm with rfl|hm
   ·exact IY.1
   ·exact i2 m hm
theorem as6 {t:Nd}(h:t.wf)(x:aj):x ∈ t.flat []↔∃k,t.at_ (cut x.path)=some k∧x.dir=k.dir∧x.ids=k.ids:=by
 rw[uM,RC h];constructor
 ·rintro⟨ns,k,de,dS,rfl⟩;refine⟨k,?_,rfl,rfl⟩;simp only[List.nil_append];rw[Ht de<|fun n hn=>JH<|GR<|(Ay h dS).2 n hn];exact dS
 ·rintro⟨k,dS,h1,h2⟩;refine⟨cut x.path,k,lx _,dS,?_⟩;rw[List.nil_append,Jt,←h1,←h2]
def iu (n:Bs)(f:Nd→Nd):List Nd→List Nd
 | []=>[]
 | k::r=>if k.name=n then f k::r else k::iu n f r
def upd (t:Nd):List Bs→(Nd→Nd)→Nd
 | [],f=>f t
 | n::r,f=> .mk t.b t.name t.dir t.ids<|iu n (fun k=>upd k r f) t.kids
def dL (t:Nd)(ns:List Bs):Option (Bool×List Int):=(t.at_ ns).map<|fun k=>(k.dir,k.ids)
theorem UZ {n m:Bs}{f:Nd→Nd}(hf:∀k,k.name=n→(f k).name=n):∀l:List Nd,(iu n f l).find? (fun k=>decide (k.name=m))=if m=n then(l.find?<|fun k=>decide (k.name=n)).map f else l.find?<|fun k=>decide (k.name=m)
 | []=>by simp[iu]
 | k::r=>by
  unfold iu;by_cases e:k.name=n
  ·simp only[e,if_true,List.find?_cons,hf k e];by_cases e2:m=n
   ·simp[e2]
   ·have:¬n=m:=fun h=>e2 h.symm;simp[e2,this]
  ·simp only[e,if_false,List.find?_cons,UZ hf r,decide_false];by_cases e2:m=n
   ·subst e2;simp[e]
   ·simp only[e2,if_false]
theorem Kp (t:Nd)(f:Nd→Nd)(hf:∀k,(f k).name=k.name):∀ns,(t.upd ns f).name=t.name
 | []=>hf t
 | _::_=>rfl
theorem SL (t:Nd)(f:Nd→Nd)(hf:∀k,(f k).dir=k.dir):∀ns,(t.upd ns f).dir=t.dir
 | []=>hf t
 | _::_=>rfl
theorem Hh {f:Nd→Nd}(hn:∀k,(f k).name=k.name)(hd:∀k,(f k).dir=k.dir):∀(ns:List Bs) (t d:Nd),t.at_ ns=some d→∀ms,(t.upd ns f).dL ms=if ns <+: ms then(f d).dL (ms.drop ns.length) else t.dL ms
 | [],t,d,h,ms=>by
  simp only[at_,Option.some.injEq]at h;subst h;simp[upd]
 | n::r,t,d,h,ms=>by
  simp only[at_]at h;cases j6:t.c_ n with
  | none=>simp[j6]at h
  | some q =>
   simp only[j6]at h;obtain⟨hq,rfl⟩:=px j6;cases ms with
   | nil=>simp[upd,dL,at_,dir,ids]
   | cons m ms =>
    have ih:=Hh hn hd r q d h ms;have Ir:∀k:Nd,k.name=q.name→(k.upd r f).name=q.name:=fun k hk=>by rw[Kp k f hn];exact hk
    have hf:=UZ (m:=m) Ir t.kids;have e0:(t.upd (q.name::r) f).c_ m=if m=q.name then(t.c_ q.name).map (fun k=>k.upd r f) else t.c_ m:=hf
    have e1:(t.upd (q.name::r) f).at_ (m::ms)=match (if m=q.name then(t.c_ q.name).map (fun k=>k.upd r f) else t.c_ m) with
      | some k=>k.at_ ms
      | none=>none:=by rw[←e0];rfl
    unfold dL at ih ⊢;rw[e1];by_cases e:m=q.name
    ·subst e;simp only[if_true,j6,Option.map_some];rw[ih];simp only[List.cons_prefix_cons,true_and,List.length_cons,List.drop_succ_cons,at_,j6]
    ·have:¬(q.name::r) <+: (m::ms):=fun hp=>e (List.cons_prefix_cons.1 hp).1.symm;simp only[e,this,if_false,at_]<;>rfl
def place (t:Nd)(n:Bs):Nat:=(t.kids.takeWhile<|fun k=>lt k.name n).length
def GQ (t:Nd)(ks:List Nd):Nd:= .mk t.b t.name t.dir t.ids ks
def mG (k:Nd)(t:Nd):Nd:=t.GQ<|t.kids.take (t.place k.name)++k::t.kids.drop (t.place k.name)
def nN (n:Bs)(t:Nd):Nd:=t.GQ<|t.kids.take (t.place n)++t.kids.drop (t.place n+1)
def Af (is:List Int)(t:Nd):Nd:= .mk t.b t.name t.dir is t.kids
@[simp] theorem Ky (t:Nd) (ks):(t.GQ ks).kids=ks:=rfl
theorem abu {α:Type}(p:α→Bool):∀l:List α,l.take (l.takeWhile p).length=l.takeWhile p∧l.drop (l.takeWhile p).length=l.dropWhile p
 | []=>by simp
 | x::r=>by
  have ih:=abu p r;rw[List.takeWhile_cons,List.dropWhile_cons];split
  ·simp[ih.1,ih.2]
  ·simp
theorem av9 {l:List Nd}{n:Bs}:∀k,k ∈ l.takeWhile (fun k=>lt k.name n)→lt k.name n=true:=fun k h=>(SD h).1
theorem UJ:∀{l:List Nd} {n:Bs},l.Pairwise (fun a b=>lt a.name b.name=true)→∀k,k ∈ l.dropWhile (fun k=>lt k.name n)→lt k.name n=false
 | [],_,_,k,h=>by simp at h
 | x::r,n,hp,k,h=>by
  rw[List.pairwise_cons]at hp;rw[List.dropWhile_cons]at h;split at h
  ·exact UJ hp.2 k h
  ·next hx =>
   have hx:lt x.name n=false:=by simpa using hx
   rcases List.mem_cons.1 h with rfl|h
   ·exact hx
   ·cases e:lt k.name n with
    | false=>rfl
    | true=>rw[lt_trans (hp.1 k h) e]at hx;cases hx
theorem QS {t:Nd}{n:Bs}(h:t.c_ n=none):∀k,k ∈ t.kids→k.name≠n:=fun k hk=>by
 have:=List.find?_eq_none.1 h k hk;simpa using this
theorem aq_ {t k:Nd}(h:t.kids.Pairwise (fun a b=>lt a.name b.name=true))(hk:t.c_ k.name=none):(mG k t).kids.Pairwise (fun a b=>lt a.name b.name=true):=by
 have e:=abu (fun q:Nd=>lt q.name k.name) t.kids;simp only[mG,Ky,place];rw[e.1,e.2];have h2:=h;rw[←List.takeWhile_append_dropWhile (p:=fun q:Nd=>lt q.name k.name) (l:=t.kids),List.pairwise_append]at h2;have de:=QS hk
 have q6:∀q,q ∈ t.kids.dropWhile (fun q=>lt q.name k.name)→lt k.name q.name=true:=by
  intro q hq;have h3:=UJ h q hq;have h4:q ∈ t.kids:=(List.dropWhile_sublist _).mem hq;rcases xJ k.name q.name with g|g|g
  ·exact g
  ·exact absurd g.symm<|de q h4
  ·rw[h3]at g;cases g
 rw[List.pairwise_append];refine⟨h2.1,?_,?_⟩
 ·rw[List.pairwise_cons];exact⟨q6,h2.2.1⟩
 ·intro a ha b hb;rcases List.mem_cons.1 hb with rfl|hb
  ·exact av9 a ha
  ·exact h2.2.2 a ha b hb
theorem JM {t k q:Nd}:q ∈ (mG k t).kids↔q=k∨q ∈ t.kids:=by
 simp only[mG,Ky,List.mem_append,List.mem_cons];have:=List.take_append_drop (t.place k.name) t.kids;constructor
 ·rintro(h|h|h)
  ·exact .inr<|List.mem_of_mem_take h
  ·exact .inl h
  ·exact .inr<|List.mem_of_mem_drop h
 ·rintro(h|h)
  ·exact .inr<|.inl h
  ·rw[←this]at h;rcases List.mem_append.1 h with h|h
   ·exact .inl h
   ·exact .inr<|.inr h
theorem abS {t k:Nd}(h:t.wf)(hk:t.c_ k.name=none)(hw:ep k.name=true)(oI:k.wf):(mG k t).wf:=by
 have h':=(kz t).1 h;refine(kz _).2 ⟨aq_ h'.1 hk,fun q hq=>?_⟩;rcases JM.1 hq with rfl|hq
 ·exact⟨hw,oI⟩
 ·exact h'.2 q hq
theorem QU {t:Nd}(h:t.wf)(n:Bs)(k:Nd):t.c_ n=some k↔k ∈ t.kids∧k.name=n:=by
 constructor
 ·exact px
 ·rintro⟨h1,rfl⟩;exact QT h h1
theorem arz {t k:Nd}(h:t.wf)(hk:t.c_ k.name=none)(hw:ep k.name=true)(oI:k.wf)(n:Bs):(mG k t).c_ n=if n=k.name then some k else t.c_ n:=by
 have hi:=abS h hk hw oI;by_cases e:n=k.name
 ·subst e;simp only[if_true];exact(QU hi _ _).2 ⟨JM.2<|.inl rfl,rfl⟩
 ·simp only[e,if_false];cases hn:t.c_ n with
  | none =>
   cases h2:(mG k t).c_ n with
   | none=>rfl
   | some q =>
    obtain⟨h3,h4⟩:=px h2;rcases JM.1 h3 with rfl|h3
    ·exact absurd h4.symm e
    ·exact absurd h4 (QS hn q h3)
  | some q =>
   obtain⟨h3,h4⟩:=px hn;exact(QU hi _ _).2 ⟨JM.2<|.inr h3,h4⟩
theorem Ty {k:Nd}(hl:k.kids=[])(ns:List Bs):k.dL ns=if ns=[] then some (k.dir,k.ids) else none:=by
 cases ns with
 | nil=>simp[dL,at_]
 | cons n r=>simp[dL,at_,c_,hl]
theorem adX {t k:Nd}(h:t.wf)(hk:t.c_ k.name=none)(hw:ep k.name=true)(oI:k.wf)(hl:k.kids=[])(ms:List Bs):(mG k t).dL ms=if ms=[k.name] then some (k.dir,k.ids) else t.dL ms:=by
 cases ms with
 | nil=>simp[dL,at_,mG,GQ,dir,ids]
 | cons m q =>
  have e1:(mG k t).dL (m::q)=match (mG k t).c_ m with
    | some k=>k.dL q
    | none=>none:=by
   simp only[dL,at_];cases (mG k t).c_ m<;>rfl
  have e2:t.dL (m::q)=match t.c_ m with
    | some k=>k.dL q
    | none=>none:=by
   simp only[dL,at_];cases t.c_ m<;>rfl
  rw[e1,e2,arz h hk hw oI m];by_cases e:m=k.name
  ·subst e;simp only[if_true,hk,Ty hl];by_cases e3:q=[]
   ·subst e3;simp
   ·simp[e3]
  ·have:¬(m::q=[k.name]):=fun h=>e (by simp at h;exact h.1);simp only[e,this,if_false]
theorem aaq:∀{l:List Nd} {k:Nd},l.Pairwise (fun a b=>lt a.name b.name=true)→k ∈ l→l[(l.takeWhile<|fun q=>lt q.name k.name).length]? = some k
 | [],k,_,h=>by simp at h
 | x::r,k,hp,h=>by
  rw[List.pairwise_cons]at hp;rw[List.takeWhile_cons];rcases List.mem_cons.1 h with rfl|h
  ·simp[lt_irrefl]
  ·simp only[hp.1 k h,if_true,List.length_cons,List.getElem?_cons_succ];exact aaq hp.2 h
theorem R5 {t k:Nd}{n:Bs}(h:t.wf)(hk:t.c_ n=some k):t.kids[t.place n]? = some k:=by
 obtain⟨h1,rfl⟩:=px hk;exact aaq ((kz t).1 h).1 h1
theorem JL {t k q:Nd}{n:Bs}(h:t.wf)(hk:t.c_ n=some k):q ∈ (nN n t).kids↔q ∈ t.kids∧q.name≠n:=by
 have hp:=R5 h hk;obtain⟨_,hn⟩:=px hk;have hs:t.kids=t.kids.take (t.place n)++k::t.kids.drop (t.place n+1):=by
  rw[←pc hp,List.take_append_drop]
 have zi:=((kz t).1 h).1;rw[hs,List.pairwise_append,List.pairwise_cons]at zi;simp only[nN,Ky,List.mem_append];constructor
 ·rintro(h1|h1)
  ·refine⟨List.mem_of_mem_take h1,?_⟩;rw[←hn];exact nY (zi.2.2 q h1 k<|by simp)
  ·refine⟨List.mem_of_mem_drop h1,?_⟩;rw[←hn];exact fun e=>nY (zi.2.1.1 q h1) e.symm
 ·rintro⟨h1,h2⟩;rw[hs]at h1;rcases List.mem_append.1 h1 with h1|h1
  ·exact .inl h1
  ·rcases List.mem_cons.1 h1 with rfl|h1
   ·exact absurd hn h2
   ·exact .inr h1
theorem abR {t k:Nd}{n:Bs}(h:t.wf)(hk:t.c_ n=some k):(nN n t).wf:=by
 have h':=(kz t).1 h;refine(kz _).2 ⟨?_,fun q hq=>h'.2 q ((JL h hk).1 hq).1⟩;refine h'.1.sublist ?_;simp only[nN,Ky];rw[←List.eraseIdx_eq_take_drop_succ];exact List.eraseIdx_sublist _ _
theorem ary {t k:Nd}{n:Bs}(h:t.wf)(hk:t.c_ n=some k)(m:Bs):(nN n t).c_ m=if m=n then none else t.c_ m:=by
 have hi:=abR h hk;by_cases e:m=n
 ·subst e;simp only[if_true];cases h2:(nN m t).c_ m with
  | none=>rfl
  | some q =>
   obtain⟨h3,h4⟩:=px h2;exact absurd h4 ((JL h hk).1 h3).2
 ·simp only[e,if_false];cases hn:t.c_ m with
  | none =>
   cases h2:(nN n t).c_ m with
   | none=>rfl
   | some q =>
    obtain⟨h3,h4⟩:=px h2;exact absurd h4<|QS hn q ((JL h hk).1 h3).1
  | some q =>
   obtain⟨h3,h4⟩:=px hn;exact(QU hi _ _).2 ⟨(JL h hk).2 ⟨h3,by rw[h4];exact e⟩,h4⟩
theorem adW {t k:Nd}{n:Bs}(h:t.wf)(hk:t.c_ n=some k)(hl:k.kids=[])(ms:List Bs):(nN n t).dL ms=if ms=[n] then none else t.dL ms:=by
 cases ms with
 | nil=>simp[dL,at_,nN,GQ,dir,ids]
 | cons m q =>
  have e1:(nN n t).dL (m::q)=match (nN n t).c_ m with
    | some k=>k.dL q
    | none=>none:=by
   simp only[dL,at_];cases (nN n t).c_ m<;>rfl
  have e2:t.dL (m::q)=match t.c_ m with
    | some k=>k.dL q
    | none=>none:=by
   simp only[dL,at_];cases t.c_ m<;>rfl
  rw[e1,e2,ary h hk m];by_cases e:m=n
  ·subst e;simp only[if_true,hk,Ty hl];by_cases e3:q=[]
   ·subst e3;simp
   ·simp[e3]
  ·have:¬(m::q=[n]):=fun h=>e (by simp at h;exact h.1);simp only[e,this,if_false]
theorem adY (is:List Int)(t:Nd)(ms:List Bs):(Af is t).dL ms=if ms=[] then some (t.dir,is) else t.dL ms:=by
 cases ms with
 | nil=>simp[dL,at_,Af,dir,ids]
 | cons m q=>simp only[List.cons_ne_nil,if_false,dL,at_];rfl
theorem ZF {n:Bs}{f:Nd→Nd}:∀{l:List Nd} {q:Nd},q ∈ iu n f l→q ∈ l∨∃k,l.find? (fun k=>decide (k.name=n))=some k∧q=f k
 | [],q,h=>by simp[iu]at h
 | k::r,q,h=>by
  unfold iu at h;by_cases e:k.name=n
  ·simp only[e,if_true,List.mem_cons]at h;rcases h with rfl|h
   ·exact .inr ⟨k,by simp[e],rfl⟩
   ·exact .inl (by simp[h])
  ·simp only[e,if_false,List.mem_cons]at h;rcases h with rfl|h
   ·exact .inl (by simp)
   ·rcases ZF h with h|⟨k',h1,h2⟩
    ·exact .inl (by simp[h])
    ·exact .inr ⟨k',by simp[e,h1],h2⟩
theorem abF {n:Bs}{f:Nd→Nd}(hf:∀k,(f k).name=k.name):∀l:List Nd,(iu n f l).map (·.name)=l.map (·.name)
 | []=>rfl
 | k::r=>by
  unfold iu;split
  ·simp[hf]
  ·simp[abF hf r]
theorem Kx {f:Nd→Nd}(hn:∀k,(f k).name=k.name):∀(ns:List Bs) (t d:Nd),t.wf→t.at_ ns=some d→(f d).wf→(t.upd ns f).wf
 | [],t,d,_,h,hf=>by simp only[at_,Option.some.injEq]at h;subst h;exact hf
 | n::r,t,d,hw,h,hf=>by
  simp only[at_]at h;cases j6:t.c_ n with
  | none=>simp[j6]at h
  | some q =>
   simp only[j6]at h;have vP:=(kz t).1 hw;refine(kz _).2 ⟨?_,fun k hk=>?_⟩
   ·show(iu n (fun k=>upd k r f) t.kids).Pairwise _;have h1:=vP.1;rw[←List.pairwise_map (f:=fun k:Nd=>k.name) (R:=fun a b=>lt a b=true)]at h1 ⊢;rw[abF<|fun k=>Kp k f hn r];exact h1
   ·rcases ZF hk with hk|⟨k',h1,rfl⟩
    ·exact vP.2 k hk
    ·have:k'=q:=by unfold c_ at j6;rw[j6]at h1;simpa using h1.symm
     subst this;have hq:=vP.2 k' (px j6).1;exact⟨by rw[Kp k' f hn];exact hq.1,Kx hn r k' d hq.2 h hf⟩
theorem abh:∀{l m:List aj},l.Pairwise fS→m.Pairwise fS→(∀x,x ∈ l↔x ∈ m)→l=m
 | [],[],_,_,_=>rfl
 | [],y::m,_,_,h=>by have:=(h y).2 (by simp);simp at this
 | x::l,[],_,_,h=>by have:=(h x).1 (by simp);simp at this
 | x::l,y::m,hl,hm,h=>by
  rw[List.pairwise_cons]at hl hm;have e:x=y:=by
   rcases List.mem_cons.1 ((h x).1<|by simp) with e|h1
   ·exact e
   ·rcases List.mem_cons.1 ((h y).2<|by simp) with e|h2
    ·exact e.symm
    ·have:=lt_trans (hm.1 x h1)<|hl.1 y h2;rw[lt_irrefl]at this;cases this
  subst e;congr 1;refine abh hl.2 hm.2<|fun z=>?_;constructor
  ·intro hz;rcases List.mem_cons.1 ((h z).1<|by simp[hz]) with rfl|h1
   ·have:=hl.1 z hz;unfold fS at this;rw[lt_irrefl]at this;cases this
   ·exact h1
  ·intro hz;rcases List.mem_cons.1 ((h z).2<|by simp[hz]) with rfl|h1
   ·have:=hm.1 z hz;unfold fS at this;rw[lt_irrefl]at this;cases this
   ·exact h1
theorem ZC {t:Nd}(h:t.wf)(x:aj):x ∈ t.flat []↔t.dL (cut x.path)=some (x.dir,x.ids):=by
 rw[as6 h,dL,Option.map_eq_some_iff];constructor
 ·rintro⟨k,h1,h2,h3⟩;exact⟨k,h1,by rw[h2,h3]⟩
 ·rintro⟨k,h1,h2⟩;simp only[Prod.mk.injEq]at h2;exact⟨k,h1,h2.1.symm,h2.2.symm⟩
end Fw.Nd
