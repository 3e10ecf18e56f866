/-
  Shared texts of this claim.
-/
import Derived.Test.YtopjnikcppafdaaGreatDoorKAH
import Derived.Lib.LaidTab
import Derived.Test.YtopjnikcppafdaaGreatDoorProg
import Derived.Sort.AssemblyPlain
import Derived.Test.YtopjnikcppafdaaGreatDoorKAA
import Derived.Sort.OwnSorted
import Derived.Lib.BitFns
import Derived.Shelf.GgSortFunc.RowK
import Derived.Shelf.Sort.Plain
import Derived.Ground.Names2Prog
import Derived.Shelf.Slices.Clone
import Derived.Shelf.Slices.CompactI
import Derived.Shelf.Slices.In.SortNone
import Derived.Ground.SlsfProg
import Derived.Ground.SlgfProg
import Derived.Ground.SlgnProg
import Derived.Shelf.SlicesE.Clone
import Derived.Shelf.SlSortCmp.Whole1
import Derived.Shelf.SlSortCmp.WholeK
import Derived.Shelf.SlicesQ.IndexFunc
import Derived.Shelf.SlSortCmp.NoneTotal
import Derived.Sort.OwnSortedInts
set_option linter.unusedSimpArgs false
set_option linter.unusedVariables false
noncomputable section
namespace Cx
open Go Go.RowKit
def aY (n:Int):Prop:=-9223372036854775808≤n∧n≤9223372036854775807
def ints (l:List Int):D:=.list (l.map .int)
theorem aN {n:Int}(h:-9223372036854775808≤n∧n≤9223372036854775807):IntKind.i64.wrap n=n:=by
 simp only[IntKind.wrap,IntKind.signed,IntKind.bits];simp;split<;>omega
theorem DTy.int_inv {k:IntKind}{d:D}(h:DTy (.int k) d):∃n,d=.v (.int k n)∧k.min≤n∧n≤k.max:=by
 cases h with
 |int k n h1 h2=>exact⟨n,rfl,h1,h2⟩
 |other t d h=>exact h.elim
theorem DTy.i64_inv {d:D}(h:DTy (.int .i64) d):∃n,d=.int n∧aY n:=by
 obtain⟨n,rfl,h1,h2⟩:=h.int_inv;exact⟨n,rfl,by simpa [IntKind.min,IntKind.max,IntKind.signed,IntKind.bits] using h1,by simpa [IntKind.min,IntKind.max,IntKind.signed,IntKind.bits] using h2⟩
theorem DTy.bool_inv {d:D}(h:DTy .bool d):∃b,d=.bool b:=by
 cases h with
 |bool b=>exact⟨b,rfl⟩
 |other t d h=>exact h.elim
theorem DTy.slice_inv {e:Ty}{d:D}(h:DTy (.slice e) d):∃xs,d=.list xs∧xs.length≤maxLen∧∀x,x∈xs→DTy e.unf x:=by
 cases h with
 |slice e xs hm h=>exact⟨xs,rfl,hm,h⟩
 |other t d h=>exact h.elim
theorem DTy.agg_inv {ts:List Ty}{d:D}(h:DTy (.agg ts) d):∃ds,d=.agg ds∧DTys ts ds:=by
 cases h with
 |agg ts ds h=>exact⟨ds,rfl,h⟩
 |other t d h=>exact h.elim
theorem DTys.cons_inv {t:Ty}{ts:List Ty}{ds:List D}(h:DTys (t::ts) ds):∃d ds',ds=d::ds'∧DTy t d∧DTys ts ds':=by
 cases h with
 |cons h hs=>exact⟨_,_,rfl,h,hs⟩
theorem DTys.nil_inv {ds:List D}(h:DTys [] ds):ds=[]:=by cases h;rfl
theorem ka {α:Type}{enc:α→D}{P:α→Prop}{xs:List D}(h:∀x,x∈xs→∃a,x=enc a∧P a):∃l:List α,xs=l.map enc∧∀a,a∈l→P a:=by
 induction xs with
 |nil=>exact⟨[],rfl,fun _ h=>nomatch h⟩
 |cons x xs ih=>
  obtain⟨l,hl,hp⟩:=ih fun y hy=>h y (fy _ hy);obtain⟨a,ha,pa⟩:=h x (fK ..)
  exact⟨a::l,by rw[hl,ha];rfl,fun b hb=>by
   rcases cC.1 hb with e|hb
   ·rw[e];exact pa
   ·exact hp b hb⟩
theorem DTy.ints_inv {d:D}(h:DTy (.slice (.int .i64)) d):∃l:List Int,d=ints l∧l.length≤maxLen∧∀x,x∈l→aY x:=by
 obtain⟨xs,rfl,hm,hx⟩:=h.slice_inv;obtain⟨l,rfl,hl⟩:=ka (enc:=D.int) (P:=aY) fun x hh=>(hx x hh).i64_inv;exact⟨l,rfl,by simpa using hm,hl⟩
section
variable (ρ:Env) (T:cG)
@[simp] theorem aGw (t:Nat):PE.ev ρ (.r t)=ρ.r t:=_root_.id rfl
@[simp] theorem aGt (t:Nat):PE.ev ρ (.o t)=ρ.o t:=_root_.id rfl
@[simp] theorem aGe (d:D):PE.ev ρ (.con d)=d:=_root_.id rfl
@[simp] theorem aGb (e:PE)(i:Nat):PE.ev ρ (.cell e i)=(PE.ev ρ e).c i:=_root_.id rfl
@[simp] theorem aGG (e:PE)(a n:Nat):PE.ev ρ (.sub e a n)=.agg (((PE.ev ρ e).cells.drop a).take n):=_root_.id rfl
@[simp] theorem aGz (e x:PE)(n:Nat):PE.ev ρ (.setc e n x)=.agg (dK (PE.ev ρ e).cells n (PE.ev ρ x).cells):=_root_.id rfl
@[simp] theorem aGm (es:List PE):PE.ev ρ (.mk es)=.agg (PE.evc ρ es):=_root_.id rfl
@[simp] theorem aF6 (op:BinOp)(k:IntKind)(x y:PE):PE.ev ρ (.ai op k x y)=.v (.int k (bX op k (PE.ev ρ x).i (PE.ev ρ y).i)):=_root_.id rfl
@[simp] theorem aGc (op:BinOp)(x y:PE):PE.ev ρ (.ci op x y)=.v (.bool (jD op (PE.ev ρ x).i (PE.ev ρ y).i)):=_root_.id rfl
@[simp] theorem aGa (op:BinOp)(x y:PE):PE.ev ρ (.cb op x y)=.v (.bool (BD op (PE.ev ρ x).b (PE.ev ρ y).b)):=_root_.id rfl
@[simp] theorem aGg (op:BinOp)(x y:PE):PE.ev ρ (.cs op x y)=.v (.bool (BF op (PE.ev ρ x).s (PE.ev ρ y).s)):=_root_.id rfl
@[simp] theorem aGr (x:PE):PE.ev ρ (.nt x)=.v (.bool (!(PE.ev ρ x).b)):=_root_.id rfl
@[simp] theorem aGf (k:IntKind)(x:PE):PE.ev ρ (.conv k x)=.v (.int k (k.wrap (PE.ev ρ x).i)):=_root_.id rfl
@[simp] theorem aGu (c a b:PE):PE.ev ρ (.pick c a b)=if(PE.ev ρ c).b=true then PE.ev ρ a else PE.ev ρ b:=by
  simp only[PE.ev];cases(PE.ev ρ c).b<;>rfl
@[simp] theorem aGn (n:Nat)(e:PE):PE.ev ρ (az n e)=jZ n (PE.ev ρ e):=aou ρ n e
@[simp] theorem aF9 (x:PE):PE.ev ρ (.bytes x)=.list ((PE.ev ρ x).s.data.toList.map fun b=>.v (.int .u8 b.toNat)):=_root_.id rfl
@[simp] theorem aGj (x:PE):PE.ev ρ (.llen x)=.v (.int .i64 (PE.ev ρ x).l.length):=_root_.id rfl
@[simp] theorem aGD (x:PE):PE.ev ρ (.slen x)=.v (.int .i64 (PE.ev ρ x).s.size):=_root_.id rfl
@[simp] theorem aGo (x:PE):PE.ev ρ (.mlen x)=.v (.int .i64 (PE.ev ρ x).m.length):=_root_.id rfl
@[simp] theorem aGs (x i:PE):PE.ev ρ (.nth x i)=(PE.ev ρ x).l.getD (PE.ev ρ i).i.toNat .none:=_root_.id rfl
@[simp] theorem aGi (x i:PE):PE.ev ρ (.idx x i)=.v (.bool (decide (0≤(PE.ev ρ i).i∧(PE.ev ρ i).i<(PE.ev ρ x).l.length))):=_root_.id rfl
@[simp] theorem aGA (x i y:PE)(n:Nat):PE.ev ρ (.setn x i n y)=.list ((PE.ev ρ x).l.set (PE.ev ρ i).i.toNat (wV ((PE.ev ρ x).l.getD (PE.ev ρ i).i.toNat .none) n (PE.ev ρ y))):=_root_.id rfl
@[simp] theorem aF8 (x y:PE):PE.ev ρ (.app x y)=.list ((PE.ev ρ x).l++(PE.ev ρ y).l):=_root_.id rfl
@[simp] theorem aGl (es:List PE):PE.ev ρ (.lst es)=.list (PE.evs ρ es):=_root_.id rfl
@[simp] theorem aGy (x y:PE):PE.ev ρ (.rep x y)=.list (List.replicate (PE.ev ρ x).i.toNat (PE.ev ρ y)):=_root_.id rfl
@[simp] theorem aGC (x a b:PE):PE.ev ρ (.slc x a b)=.list (((PE.ev ρ x).l.take (PE.ev ρ b).i.toNat).drop (PE.ev ρ a).i.toNat):=_root_.id rfl
@[simp] theorem aGE (x a b:PE):PE.ev ρ (.slok x a b)=.v (.bool (decide (0≤(PE.ev ρ a).i∧(PE.ev ρ a).i≤(PE.ev ρ b).i∧(PE.ev ρ b).i≤(PE.ev ρ x).l.length))):=_root_.id rfl
@[simp] theorem aGx (x:PE):PE.ev ρ (.ref x)=.ref (PE.ev ρ x):=_root_.id rfl
@[simp] theorem aGh (x:PE):PE.ev ρ (.deref x)=(PE.ev ρ x).deref:=_root_.id rfl
@[simp] theorem aGk (m k z:PE):PE.ev ρ (.look m k z)=(jL (PE.ev ρ k) (PE.ev ρ m).m).getD (PE.ev ρ z):=_root_.id rfl
@[simp] theorem aGv (m k v:PE):PE.ev ρ (.put m k v)=.map (fT (PE.ev ρ k) (PE.ev ρ v) (PE.ev ρ m).m):=_root_.id rfl
@[simp] theorem aGp (x y:PE):PE.ev ρ (.mn x y)=if(PE.ev ρ y).i<(PE.ev ρ x).i then PE.ev ρ y else PE.ev ρ x:=by
  simp only[PE.ev];by_cases h:(PE.ev ρ y).i<(PE.ev ρ x).i<;>simp[h]
@[simp] theorem aGq (x y:PE):PE.ev ρ (.mx x y)=if(PE.ev ρ y).i>(PE.ev ρ x).i then PE.ev ρ y else PE.ev ρ x:=by
  simp only[PE.ev];by_cases h:(PE.ev ρ y).i>(PE.ev ρ x).i<;>simp[h]
@[simp] theorem aGI (es:List PE):PE.ev ρ (.tup es)=.tup (PE.evs ρ es):=_root_.id rfl
@[simp] theorem aGH (x:PE)(i:Nat):PE.ev ρ (.tget x i)=(PE.ev ρ x).tget i:=_root_.id rfl
@[simp] theorem aGd (f:Nat)(es:List PE):PE.ev ρ (.clo f es)=.clo f (PE.evs ρ es):=_root_.id rfl
@[simp] theorem aF7 (x y:PE):PE.ev ρ (.an x y)=.v (.bool ((PE.ev ρ x).b&&(PE.ev ρ y).b)):=_root_.id rfl
@[simp] theorem aGM:PE.evs ρ []=[]:=_root_.id rfl
@[simp] theorem aGL (e:PE)(es:List PE):PE.evs ρ (e::es)=PE.ev ρ e::PE.evs ρ es:=_root_.id rfl
@[simp] theorem aGK:PE.evc ρ []=[]:=_root_.id rfl
@[simp] theorem aGJ (e:PE)(es:List PE):PE.evc ρ (e::es)=(PE.ev ρ e).cells++PE.evc ρ es:=_root_.id rfl
@[simp] theorem anh (x:Bool):(D.bool x).b=x:=_root_.id rfl
@[simp] theorem aFZ (k:IntKind)(n:Int):(D.v (.int k n)).i=n:=_root_.id rfl
@[simp] theorem anr (n:Int):(D.int n).i=n:=_root_.id rfl
@[simp] theorem aFU (x:List D):(D.list x).l=x:=_root_.id rfl
@[simp] theorem aFS (l:List Int):(ints l).l=l.map .int:=_root_.id rfl
@[simp] theorem aFV (x:List (D×D)):(D.map x).m=x:=_root_.id rfl
@[simp] theorem aFJ (x:List D)(i:Nat):(D.agg x).c i=x.getD i .none:=_root_.id rfl
@[simp] theorem aFK (x:List D):(D.agg x).cells=x:=_root_.id rfl
@[simp] theorem aFT (x:List D):(D.list x).cells=[.list x]:=_root_.id rfl
@[simp] theorem aFR (x:List Int):(ints x).cells=[ints x]:=_root_.id rfl
@[simp] theorem aFO (n:Int):(D.int n).cells=[.int n]:=_root_.id rfl
@[simp] theorem aFL (n:Bool):(D.bool n).cells=[.bool n]:=_root_.id rfl
@[simp] theorem aFY (x:Value):(D.v x).cells=[.v x]:=_root_.id rfl
@[simp] theorem aFX (x:List D)(i:Nat):(D.tup x).tget i=x.getD i .none:=_root_.id rfl
@[simp] theorem aFW (x:D):(D.ref x).deref=x:=_root_.id rfl
@[simp] theorem aIX (s:SE)(t:Nat):(s.ev ρ).r t=PE.ev ρ (s.getR t):=_root_.id rfl
@[simp] theorem aIW (s:SE)(t:Nat):(s.ev ρ).o t=PE.ev ρ (s.getO t):=_root_.id rfl
@[simp] theorem aGV (o:List (Nat×PE))(u:Nat):SE.getR ⟨[],o⟩ u=.r u:=_root_.id rfl
@[simp] theorem aGU (t:Nat)(e:PE)(r o:List (Nat×PE))(u:Nat):SE.getR ⟨(t,e)::r,o⟩ u=if t=u then e else SE.getR ⟨r,o⟩ u:=by
  simp only[SE.getR,bL];by_cases h:t=u
  ·subst h;simp
  ·simp[ga h,h]
@[simp] theorem aGT (r:List (Nat×PE))(u:Nat):SE.getO ⟨r,[]⟩ u=.o u:=_root_.id rfl
@[simp] theorem aGS (t:Nat)(e:PE)(r o:List (Nat×PE))(u:Nat):SE.getO ⟨r,(t,e)::o⟩ u=if t=u then e else SE.getO ⟨r,o⟩ u:=by
  simp only[SE.getO,bL];by_cases h:t=u
  ·subst h;simp
  ·simp[ga h,h]
@[simp] theorem setR_r (t u:Nat)(d:D):(ρ.setR t d).r u=if u=t then d else ρ.r u:=Env.setR_r ρ t u d
@[simp] theorem aI3 (t u:Nat)(d:D):(ρ.setR t d).o u=ρ.o u:=_root_.id rfl
@[simp] theorem setO_o (t u:Nat)(d:D):(ρ.setO t d).o u=if u=t then d else ρ.o u:=Env.setO_o ρ t u d
@[simp] theorem aI2 (t u:Nat)(d:D):(ρ.setO t d).r u=ρ.r u:=_root_.id rfl
@[simp] theorem aIO (lr lo:List Nat)(vr vo:List D)(u:Nat):(ρ.put lr vr lo vo).r u=putL ρ.r lr vr u:=_root_.id rfl
@[simp] theorem aIN (lr lo:List Nat)(vr vo:List D)(u:Nat):(ρ.put lr vr lo vo).o u=putL ρ.o lo vo u:=_root_.id rfl
@[simp] theorem join_r (ρ':Env)(lr lo:List Nat)(u:Nat):(ρ.join lr lo ρ').r u=if u∈lr then ρ'.r u else ρ.r u:=Env.join_r ρ ρ' lr lo u
@[simp] theorem join_o (ρ':Env)(lr lo:List Nat)(u:Nat):(ρ.join lr lo ρ').o u=if u∈lo then ρ'.o u else ρ.o u:=Env.join_o ρ ρ' lr lo u
@[simp] theorem aIL (f:Nat→D)(i:Nat)(is:List Nat)(x:D)(xs:List D)(u:Nat):putL f (i::is) (x::xs) u=if u=i then x else putL f is xs u:=Nk f i is x xs u
@[simp] theorem aIM (f:Nat→D)(xs:List D)(u:Nat):putL f [] xs u=f u:=Nl f xs u
@[simp] theorem aF2 (ds:List D)(u:Nat):(oV ds).r u=ds.getD u .none:=_root_.id rfl
@[simp] theorem aHy:holds [] ρ=true:=_root_.id rfl
@[simp] theorem aHx (g:Nat×Bool)(gs:List (Nat×Bool)):holds (g::gs) ρ=((ρ.r g.1).b==g.2&&holds gs ρ):=_root_.id rfl
variable (Q:Out→Prop)
@[simp] theorem aJK (s:SE):aH T (.next s) ρ Q=Q (.next (s.ev ρ)):=_root_.id rfl
@[simp] theorem aJG (id:Nat)(s:SE):aH T (.exit id s) ρ Q=Q (.exit id (s.ev ρ)):=_root_.id rfl
@[simp] theorem aJL (e:PE):aH T (.ret e) ρ Q=Q (.ret (e.ev ρ)):=_root_.id rfl
@[simp] theorem aJF (e:PE)(k:PT):aH T (.chk e k) ρ Q=((e.ev ρ).b=true∧aH T k ρ Q):=_root_.id rfl
@[simp] theorem aJH (c:PE)(a b:PT):aH T (.ite c a b) ρ Q=if(c.ev ρ).b=true then aH T a ρ Q else aH T b ρ Q:=_root_.id rfl
@[simp] theorem aJD (s:SE)(gs:List (Nat×Bool))(dst f:Nat)(args:List PE)(k:PT):aH T (.call s gs dst f args k) ρ Q=if holds gs (s.ev ρ)=true then ∃d,aj T f (PE.evs ρ args) d∧aH T k ((s.ev ρ).setR dst d) Q else aH T k (s.ev ρ) Q:=_root_.id rfl
@[simp] theorem aJJ (s:SE)(j f:Nat)(args:List PE)(k:PT):aH T (.mcall s j f args k) ρ Q=∃d,aj T f (PE.evs ρ args) d∧aH T k ((s.ev ρ).setO j d) Q:=_root_.id rfl
@[simp] theorem aJI (s:SE)(c:PE)(lr lo:List Nat)(a b k:PT):aH T (.iteS s c lr lo a b k) ρ Q=if(c.ev ρ).b=true then aH T a (s.ev ρ) (lx (s.ev ρ) lr lo (gC (fun ρ'=>aH T k ρ' Q) Q)) else aH T b (s.ev ρ) (lx (s.ev ρ) lr lo (gC (fun ρ'=>aH T k ρ' Q) Q)):=_root_.id rfl
@[simp] theorem aJB (s:SE)(id:Nat)(lr lo:List Nat)(a k:PT):aH T (.blockS s id lr lo a k) ρ Q=aH T a (s.ev ρ) (mw (s.ev ρ) id lr lo (gC (fun ρ'=>aH T k ρ' Q) Q)):=_root_.id rfl
@[simp] theorem aJC (s:SE)(c:PC)(k:PT):aH T (.brk s c k) ρ Q=aK T c (s.ev ρ) (gC (fun ρ'=>aH T k ρ' Q) Q):=_root_.id rfl
variable (K:Env→Prop) (id:Nat) (lr lo bF bE:List Nat) (K2:List D→List D→Prop)
@[simp] theorem aI0 (ρ':Env):gC K Q (.next ρ')=K ρ':=_root_.id rfl
@[simp] theorem aIZ (i:Nat)(ρ':Env):gC K Q (.exit i ρ')=Q (.exit i ρ'):=_root_.id rfl
@[simp] theorem aI1 (d:D):gC K Q (.ret d)=Q (.ret d):=_root_.id rfl
@[simp] theorem aHX (ρ':Env):lx ρ lr lo Q (.next ρ')=Q (.next (ρ.join lr lo ρ')):=_root_.id rfl
@[simp] theorem aHY (d:D):lx ρ lr lo Q (.ret d)=Q (.ret d):=_root_.id rfl
@[simp] theorem aFr (ρ':Env):mw ρ id lr lo Q (.next ρ')=Q (.next (ρ.join lr lo ρ')):=_root_.id rfl
@[simp] theorem aFq (i:Nat)(ρ':Env):mw ρ id lr lo Q (.exit i ρ')=if i=id then Q (.next (ρ.join lr lo ρ')) else Q (.exit i ρ'):=_root_.id rfl
@[simp] theorem aFs (d:D):mw ρ id lr lo Q (.ret d)=Q (.ret d):=_root_.id rfl
@[simp] theorem aIT (ρ':Env):fo ρ id bF bE lr lo K2 Q (.next ρ')=K2 (lr.map ρ'.r) (lo.map ρ'.o):=_root_.id rfl
@[simp] theorem aIS (i:Nat)(ρ':Env):fo ρ id bF bE lr lo K2 Q (.exit i ρ')=if i=id then Q (.next (ρ.put bF (bF.map ρ'.r) bE (bE.map ρ'.o))) else Q (.exit i ρ'):=_root_.id rfl
@[simp] theorem aIU (d:D):fo ρ id bF bE lr lo K2 Q (.ret d)=Q (.ret d):=_root_.id rfl
@[simp] theorem aJE (s:SE)(gs:List (Nat×Bool))(dst:Nat)(e:PE)(args:List PE)(k:PT):aH T (.callc s gs dst e args k) ρ Q=if holds gs (s.ev ρ)=true then ∃f caps d,e.ev ρ=.clo f caps∧aj T f (PE.evs ρ args++caps) d∧aH T k ((s.ev ρ).setR dst d) Q else aH T k (s.ev ρ) Q:=_root_.id rfl
@[simp] theorem aF0 (rt:Option PE)(K3:List D→Prop)(i:Nat)(ρ':Env):vt ρ lo rt K3 Q (.exit i ρ')=if i=cR then ∃e,rt=some e∧Q (.ret (e.ev (ρ.put [] [] lo (lo.map ρ'.o)))) else Q (.exit i (ρ.put [] [] lo (lo.map ρ'.o))):=_root_.id rfl
@[simp] theorem aF3 (J:Nat)(ds:List D)(u:Nat):(BL J ds).r u=(D.none::ds).getD u .none:=_root_.id rfl
theorem aor (J:Nat)(ds:List D)(u:Nat):(BL J ds).o u=if u=J then .list [] else .none:=by
 show(bif Nat.beq u J then D.list [] else .none)=_;by_cases h:u=J
 ·subst h;simp
 ·simp[ga h,h]
@[simp] theorem aIJ (p:Nat)(x:D):partsOf [p] x=[x.tget 0]:=_root_.id rfl
end
section
variable (k:IntKind) (a b:Int)
@[simp] theorem aFj:bX .add k a b=k.wrap (a+b):=_root_.id rfl
@[simp] theorem aFn:bX .sub k a b=k.wrap (a-b):=_root_.id rfl
@[simp] theorem aFk:bX .mul k a b=k.wrap (a*b):=_root_.id rfl
@[simp] theorem aFl:bX .quo k a b=k.wrap (a.tdiv b):=_root_.id rfl
@[simp] theorem aFm:bX .rem k a b=a.tmod b:=_root_.id rfl
@[simp] theorem aFA:jD .eql a b=(a==b):=_root_.id rfl
@[simp] theorem aFF:jD .neq a b=(a !=b):=_root_.id rfl
@[simp] theorem aFE:jD .lss a b=decide (a<b):=_root_.id rfl
@[simp] theorem aFD:jD .leq a b=decide (a≤b):=_root_.id rfl
@[simp] theorem aFC:jD .gtr a b=decide (a>b):=_root_.id rfl
@[simp] theorem aFB:jD .geq a b=decide (a≥b):=_root_.id rfl
variable (x y:Bool)
@[simp] theorem aFt:BD .eql x y=(x==y):=_root_.id rfl
@[simp] theorem aFu:BD .neq x y=(!(x==y)):=_root_.id rfl
end
theorem aj.of_tree {tab:Nat→Option PC}{ext:Nat→Option (aW→List D→Option D)}{f:Nat}{pc:PC}{t:PT}{ds:List D}{d:D}(hx:ext f=none)(ht:tab f=some pc)(he:tree pc=t)(h:aH (eL tab ext) t (oV ds) (fun x=>x=.ret d)):aj (eL tab ext) f ds d:=
 .of_pc hx ht (Pj (he▸h))
@[simp] theorem aFQ (n:Int):D.v (.int .i64 n)=D.int n:=_root_.id rfl
@[simp] theorem aFN (b:Bool):D.v (.bool b)=D.bool b:=_root_.id rfl
@[simp] theorem aFP (a b:Int):(D.int a=D.int b)=(a=b):=by
  apply propext;constructor
  ·intro h;injection h with h;injection h
  ·intro h;rw[h]
@[simp] theorem aFM (a b:Bool):(D.bool a=D.bool b)=(a=b):=by
  apply propext;constructor
  ·intro h;injection h with h;injection h
  ·intro h;rw[h]
section
variable (c:Prop) [Decidable c] (x y:D)
@[simp] theorem aHV:(if c then x else y).b=if c then x.b else y.b:=by split<;>rfl
@[simp] theorem aHW:(if c then x else y).i=if c then x.i else y.i:=by split<;>rfl
end
@[simp] theorem aJM:IntKind.i64.wrap 1=1:=aN (by omega)
@[simp] theorem aJN:IntKind.i64.wrap 0=0:=aN (by omega)
end Cx
namespace Cx
open Go
inductive Tm where
 |mk (op n:Int) (args:List Tm)
instance:Inhabited Tm:=⟨.mk 0 0 []⟩
namespace Tm
def op:Tm→Int|.mk o _ _=>o
def n:Tm→Int|.mk _ n _=>n
def args:Tm→List Tm|.mk _ _ aa=>aa
end Tm
mutual
def dP:Tm→D
 |.mk o n aa=>.agg [.int o,.int n,.list (K7 aa)]
def K7:List Tm→List D
 |[]=>[]
 |t::ts=>dP t::K7 ts
end
theorem Rx:∀l:List Tm,K7 l=l.map dP
 |[]=>rfl
 |t::l=>by rw[K7,Rx l];rfl
theorem EZ (t:Tm):dP t=.agg [.int t.op,.int t.n,.list (t.args.map dP)]:=by
 cases t with
 |mk o n aa=>rw[dP,Rx];rfl
inductive Tm.OK:Tm→Prop where
 |mk (o n:Int) (aa:List Tm) (h1:aY o) (h2:aY n) (h3:aa.length≤maxLen) (h:∀a,a∈aa→Tm.OK a):Tm.OK (.mk o n aa)
theorem DTy.trm_inv {d:D}(h:DTy .trmA d):∃t:Tm,d=dP t∧t.OK:=by
 suffices hs:∀(m:Nat) (d:D),sizeOf d≤m→DTy .trmA d→∃t:Tm,d=dP t∧t.OK from hs _ d (bn _) h
 intro m
 induction m with
 |zero=>
  intro d hm h;cases d<;>simp at hm
 |succ m ih=>
  intro d hm h;obtain⟨ds,rfl,hs⟩:=DTy.agg_inv h;obtain⟨d1,ds,rfl,h1,hs⟩:=hs.cons_inv;obtain⟨d2,ds,rfl,h2,hs⟩:=hs.cons_inv;obtain⟨d3,ds,rfl,h3,hs⟩:=hs.cons_inv;obtain rfl:=hs.nil_inv;obtain⟨o,rfl,b1⟩:=h1.i64_inv;obtain⟨n,rfl,b2⟩:=h2.i64_inv;obtain⟨xs,rfl,hl,hx⟩:=h3.slice_inv
  obtain⟨l,rfl,ax⟩:=ka (enc:=dP) (P:=Tm.OK) fun x hh=>ih x (by
   have:=List.sizeOf_lt_of_mem hh;simp at hm;omega) (hx x hh)
  exact⟨.mk o n l,by rw[dP,Rx],.mk o n l b1 b2 (by simpa using hl) ax⟩
theorem DTy.trms_inv {d:D}(h:DTy (.slice .trm) d):∃l:List Tm,d=.list (l.map dP)∧l.length≤maxLen∧∀t,t∈l→t.OK:=by
 obtain⟨xs,rfl,hl,hx⟩:=h.slice_inv;obtain⟨l,rfl,ax⟩:=ka (enc:=dP) (P:=Tm.OK) fun x hh=>DTy.trm_inv (hx x hh);exact⟨l,rfl,by simpa using hl,ax⟩
end Cx
namespace Cx
open Go
def OY (g:Nat)(zs:List Int):Nat→Option (Ty×D):=fun k=>bif Nat.beq k g then some (.agg (zs.map fun _=>.int .i64),.agg (zs.map fun z=>.v (.int .i64 z))) else none
theorem ayL {C:Ctx}{g:Nat}{zs:List Int}{name:String}{W:World}(hC:C.glob=OY g zs)(hg:C.P.globalNamed name=some g)(hz:zs.all (fun z=>decide (IntKind.i64.min≤z)&&decide (z≤IntKind.i64.max))=true)
 (h:Lib.TabIs C.P W name .i64 zs) (h0:g≤2:=by decide) (ay:0<zs.length:=by decide):CtxOK C (ls W):=by
 have vI:∀g' x,C.glob g'=some x→g'=g:=fun g' x hx=>by
  rw[hC] at hx;unfold OY at hx;cases hk:Nat.beq g' g<;>simp only[hk,cond_true,cond_false] at hx
  ·cases hx
  ·exact aD hk
 refine⟨fun k x hx=>?_,fun k x hx=>?_⟩
 rotate_right
 ·obtain rfl:=vI k x hx;exact aeT (h.cell hg 0 ay)
 rw[hC] at hx;unfold OY at hx;cases hk:Nat.beq k g<;>simp only[hk,cond_true,cond_false] at hx
 ·cases hx
 cases hx;obtain rfl:=aD hk
 have de:Rep C.cap (ls W) (.agg (zs.map fun _=>.int .i64)) (.agg (zs.map fun z=>Value.int .i64 z).toArray) (.agg (zs.map fun z=>.v (.int .i64 z))):=by
  refine .agg _ _ _ (by simp) (by simp) (fun i t ht=>?_) (fun i t ht=>?_)
  ·rw[ct,aC] at ht;obtain⟨z,pw,rfl⟩:=ht;rw[aI,aI,ct,ct,pw];have:=da.1 hz z (ko pw);simp only[aw,decide_eq_true_eq] at this;exact .int _ _ this.1 this.2
  ·rw[ct,aC] at ht;obtain⟨z,_,rfl⟩:=ht;rfl
 refine .ref _ k 0 _ _ de fun j u hu=>?_;simp only[Value.cells,xy,ct,aC] at hu;obtain⟨z,pw,rfl⟩:=hu;have af:=(fe.1 pw).1;have:=h.cell hg j af;refine aeS ?_ (.inl h0);rw[je,this,aI,pw];rfl
end Cx
namespace Cx
open Go Go.RowKit
def loops:PC→List PC
 |.seq a b=>loops a++loops b
 |.ite _ _ _ a b=>loops a++loops b
 |.block id lr lo (.loop T6 T3 a)=>loops a++[.block id lr lo (.loop T6 T3 a)]
 |.block _ _ _ a=>loops a
 |.loop _ _ a=>loops a
 |.each e ps lo rt a=>loops a++[.each e ps lo rt a]
 |.meach J ps dj lo a=>loops a++[.meach J ps dj lo a]
 |_=>[]
def QV:PC→PC
 |.block _ _ _ (.loop _ _ a)=>a
 |.each _ _ _ _ a=>a
 |.meach _ _ _ _ a=>a
 |_=>.skip
def Mw (c:PC)(k:Nat):PC:=(loops c).getD k .skip
def rnd:PC→PT
 |.block id lr lo (.loop T6 T3 a)=>round id lr lo T6 T3 a
 |.each _ _ lo _ a=>rG lo a
 |.meach _ _ _ lo a=>rG lo a
 |_=>.next .id
inductive Shp where
 |lp (id:Nat) (bF bE lr lo:List Nat)
 |ea (lo:List Nat)
 |no
def Dr:PC→Shp
 |.block id bF bE (.loop lr lo _)=>.lp id bF bE lr lo
 |.each _ _ lo _ _=>.ea lo
 |.meach _ _ _ lo _=>.ea lo
 |_=>.no
def told (c:PC):PT×List (Shp×PT):=(tree c,(loops c).map fun l=>(Dr l,rnd l))
theorem O3 {o:Option PC}{t:PT}{l:List (Shp×PT)}(h:o.map told=some (t,l)):o=some (o.getD .skip)∧tree (o.getD .skip)=t∧∀k x,l[k]?=some x→(Dr (Mw (o.getD .skip) k),rnd (Mw (o.getD .skip) k))=x:=by
 cases o with
 |none=>cases h
 |some c=>
  have h1:told c=(t,l):=by injection h
  unfold told at h1;injection h1 with h1 h2
  refine⟨rfl,h1,fun k x hx=>?_⟩;subst h2;simp only[ct,aC] at hx;obtain⟨y,hy,rfl⟩:=hx;have:Mw ((some c:Option PC).getD .skip) k=y:=by
   show(loops c).getD k .skip=y;rw[aI,hy];rfl
  rw[this]
theorem axz {c:PC}{id:Nat}{bF bE lr lo:List Nat}{t:PT}(h:(Dr c,rnd c)=(.lp id bF bE lr lo,t)):round id bF bE lr lo (QV c)=t:=by
 injection h with h1 h2
 subst h2;unfold Dr at h1;split at h1
 ·cases h1;rfl
 all_goals cases h1
theorem aod {c:PC}{lo:List Nat}{t:PT}(h:(Dr c,rnd c)=(.ea lo,t)):rG lo (QV c)=t:=by
 injection h with h1 h2
 subst h2;unfold Dr at h1;split at h1
 ·cases h1
 ·cases h1;rfl
 ·cases h1;rfl
 ·cases h1
def cL {α:Type}(x:α):α:=Classical.choose (⟨x,rfl⟩:∃y,y=x)
theorem FC {α:Type}(x:α):cL x=x:=aaJ (⟨x,rfl⟩:∃y,y=x)
def bq (o:Option PC):Nat→PC:=fun k=>QV (Mw (o.getD .skip) k)
abbrev ab (o:Option PC):PC:=cL (o.getD .skip)
abbrev bo (o:Option PC):Nat→PC:=cL (bq o)
section
variable {o:Option PC} {F:(Nat→PC)→PT×List (Shp×PT)}
theorem ay2 (h:o.map told=some (F (bq o))):o=some (ab o):=by unfold ab;rw[FC];exact(O3 (t:=(F (bq o)).1) (l:=(F (bq o)).2) h).1
theorem bG (h:o.map told=some (F (bq o))):tree (ab o)=(F (bo o)).1:=by unfold ab bo;rw[FC,FC];exact(O3 (t:=(F (bq o)).1) (l:=(F (bq o)).2) h).2.1
theorem bf (h:o.map told=some (F (bq o)))(k:Nat){id:Nat}{bF bE lr lo:List Nat}{t:(Nat→PC)→PT}(hk:∀b,(F b).2[k]?=some (.lp id bF bE lr lo,t b)):round id bF bE lr lo (bo o k)=t (bo o):=by
 unfold bo;rw[FC];exact axz ((O3 (t:=(F (bq o)).1) (l:=(F (bq o)).2) h).2.2 k _ (hk _))
theorem Xt (h:o.map told=some (F (bq o)))(k:Nat){lo:List Nat}{t:(Nat→PC)→PT}(hk:∀b,(F b).2[k]?=some (.ea lo,t b)):rG lo (bo o k)=t (bo o):=by
 unfold bo;rw[FC];exact aod ((O3 (t:=(F (bq o)).1) (l:=(F (bq o)).2) h).2.2 k _ (hk _))
end
theorem au {α:Type}{R:Nat→α→Prop}{f:Nat}{x:α}{l:List (Nat×α)}(h:R f x)(k:IM R l):IM R ((f,x)::l):=⟨h,k⟩
theorem afE {α:Type}:∀{l:List (Nat×α)},(l.map (·.1)).Nodup→∀{k f:Nat} {x:α},l[k]?=some (f,x)→bL l f=some x
 |[],_,k,f,x,h=>by simp at h
 |y::l,hn,0,f,x,h=>by
  simp only[PD,bj] at h;subst h;simp[bL]
 |y::l,hn,k+1,f,x,h=>by
  simp only[aaY] at h;rw[jc,qk] at hn;have hm:f∈l.map (·.1):=cu.2 ⟨(f,x),ko h,rfl⟩;have hb:Nat.beq y.1 f=false:=by
   cases e:Nat.beq y.1 f with
   |false=>rfl
   |true=>rw[dA e] at hn;exact absurd hm hn.1
  simp only[bL,hb,cond_false];exact afE hn.2 h
abbrev pT:PE:=.con (.bool true)
abbrev pF:PE:=.con (.bool false)
abbrev pN:PE:=.con .none
abbrev pL:PE:=.con (.list [])
abbrev pi (n:Int):PE:=.con (.int n)
abbrev aG (a b:PE):PE:=.ai .add .i64 a b
abbrev bm (a b:PE):PE:=.ai .sub .i64 a b
abbrev peq (a b:PE):PE:=.ci .eql a b
abbrev aF (a b:PE):PE:=.ci .neq a b
abbrev ak (a b:PE):PE:=.ci .lss a b
abbrev bI (a b:PE):PE:=.ci .leq a b
abbrev aR (a b:PE):PE:=.ci .gtr a b
abbrev bk (a b:PE):PE:=.ci .geq a b
abbrev pc (a:PE)(i:Nat):PE:=.cell a i
abbrev pn (a b:PE):PE:=.nth a b
abbrev aq (a b:PE):PE:=.idx a b
abbrev z2:PE:=.con (.agg [(.int 0),(.int 0)])
abbrev z3:PE:=.con (.agg [(.int 0),(.int 0),(.int 0)])
abbrev z4:PE:=.con (.agg [(.int 0),(.int 0),(.int 0),(.int 0)])
abbrev z5:PE:=.con (.agg [(.int 0),(.int 0),(.int 0),(.int 0),(.int 0)])
abbrev z6:PE:=.con (.agg [(.int 0),(.int 0),(.int 0),(.int 0),(.int 0),(.int 0)])
abbrev z9:PE:=.con (.agg [(.int 0),(.int 0),(.int 0),(.int 0),(.int 0),(.int 0),(.int 0),(.int 0),(.int 0)])
abbrev IK:PE:=.con (.agg [(.int 0),(.int 0),(.int 0),(.int 0),(.int 0),(.int 0),(.int 0),(.int 0),(.int 0),(.int 0),(.int 0),(.int 0),(.int 0),(.int 0),(.int 0)])
abbrev r0:PE:=.r 0
abbrev r1:PE:=.r 1
abbrev r2:PE:=.r 2
abbrev r3:PE:=.r 3
abbrev r4:PE:=.r 4
abbrev r5:PE:=.r 5
abbrev r6:PE:=.r 6
abbrev r7:PE:=.r 7
abbrev r8:PE:=.r 8
abbrev r9:PE:=.r 9
abbrev cV:PE:=.r 10
abbrev bJ:PE:=.r 11
abbrev bY:PE:=.r 12
abbrev cZ:PE:=.r 13
abbrev bQ:PE:=.r 14
abbrev cn:PE:=.r 15
abbrev bT:PE:=.r 16
abbrev dB:PE:=.r 17
abbrev cv:PE:=.r 18
abbrev dC:PE:=.r 19
abbrev fm:PE:=.r 20
abbrev gY:PE:=.r 21
abbrev mW:PE:=.r 22
abbrev gy:PE:=.r 23
abbrev oy:PE:=.r 24
abbrev jQ:PE:=.r 25
abbrev lZ:PE:=.r 26
abbrev dD:PE:=.r 27
abbrev pR:PE:=.r 28
abbrev mX:PE:=.r 29
abbrev oz:PE:=.r 30
abbrev pS:PE:=.r 31
abbrev pU:PE:=.r 32
abbrev rz:PE:=.r 33
abbrev G4:PE:=.r 34
abbrev pV:PE:=.r 35
abbrev jR:PE:=.r 36
abbrev l0:PE:=.r 37
abbrev gZ:PE:=.r 38
abbrev pW:PE:=.r 39
abbrev pX:PE:=.r 40
abbrev rA:PE:=.r 41
abbrev r42:PE:=.r 42
abbrev oA:PE:=.r 43
abbrev th:PE:=.r 44
abbrev rB:PE:=.r 45
abbrev zJ:PE:=.r 46
abbrev Da:PE:=.r 47
abbrev jS:PE:=.r 48
abbrev mY:PE:=.r 49
abbrev l6:PE:=.r 50
abbrev lF:PE:=.r 51
abbrev Db:PE:=.r 52
abbrev VV:PE:=.r 53
abbrev l7:PE:=.r 54
abbrev wH:PE:=.r 55
abbrev tj:PE:=.r 56
abbrev G5:PE:=.r 57
abbrev G6:PE:=.r 58
abbrev r59:PE:=.r 59
abbrev G7:PE:=.r 60
abbrev G8:PE:=.r 61
abbrev l9:PE:=.r 62
abbrev NS:PE:=.r 63
abbrev mZ:PE:=.r 64
abbrev Dc:PE:=.r 65
abbrev r66:PE:=.r 66
abbrev wI:PE:=.r 67
abbrev NT:PE:=.r 68
abbrev pY:PE:=.r 69
abbrev r70:PE:=.r 70
abbrev G9:PE:=.r 72
abbrev De:PE:=.r 73
abbrev VW:PE:=.r 74
abbrev VX:PE:=.r 75
abbrev uV:PE:=.r 76
abbrev r77:PE:=.r 77
abbrev r78:PE:=.r 78
abbrev r79:PE:=.r 79
abbrev wJ:PE:=.r 80
abbrev rC:PE:=.r 81
abbrev lG:PE:=.r 82
abbrev Ha:PE:=.r 84
abbrev Hb:PE:=.r 85
abbrev r86:PE:=.r 86
abbrev r87:PE:=.r 87
abbrev NU:PE:=.r 88
abbrev r89:PE:=.r 89
abbrev r90:PE:=.r 90
abbrev VY:PE:=.r 92
abbrev NV:PE:=.r 93
abbrev r94:PE:=.r 94
abbrev r95:PE:=.r 95
abbrev r96:PE:=.r 96
abbrev r98:PE:=.r 98
abbrev r99:PE:=.r 99
abbrev aiW:PE:=.r 103
abbrev axa:PE:=.r 104
abbrev NQ:PE:=.r 106
abbrev axb:PE:=.r 107
abbrev NR:PE:=.r 108
abbrev aiX:PE:=.r 109
abbrev axc:PE:=.r 111
abbrev VU:PE:=.r 112
abbrev axd:PE:=.r 121
abbrev axe:PE:=.r 127
abbrev o0:PE:=.o 0
abbrev o1:PE:=.o 1
abbrev o2:PE:=.o 2
abbrev o3:PE:=.o 3
abbrev o4:PE:=.o 4
abbrev o5:PE:=.o 5
abbrev o6:PE:=.o 6
abbrev o7:PE:=.o 7
abbrev o8:PE:=.o 8
abbrev o9:PE:=.o 9
abbrev cm:PE:=.o 10
abbrev Uj:PE:=.o 12
abbrev CL:PE:=.o 13
abbrev MJ:PE:=.o 17
abbrev GB:PE:=.o 18
abbrev MK:PE:=.o 25
abbrev o27:PE:=.o 27
abbrev o29:PE:=.o 29
abbrev ML:PE:=.o 45
end Cx
set_option maxRecDepth 100000
namespace Rm
open Go Go.Proofs Cx
abbrev I:Ty:=.int .i64
abbrev Y0:Ty:=.agg [.str,I,I,(.slice I),(.slice I),(.slice I)]
abbrev Y1:Ty:=.agg [I]
abbrev Y2:Ty:=.agg [.str,I,I]
abbrev Y3:Ty:=.agg [I,I,.bool]
abbrev Y4:Ty:=.agg [I,I,I,(.slice .trm)]
abbrev Y5:Ty:=.agg [.str,.bool,(.slice Y3),(.slice Y4)]
abbrev Y6:Ty:=.agg [I,I,I]
abbrev Y7:Ty:=.agg [I,I,I,I,I]
abbrev Y8:Ty:=.agg [(.slice .str),(.slice Y0),(.slice Y1),(.slice Y2),(.slice Y5),(.slice Y6),(.slice Y7),(.slice Y6)]
abbrev Y9:Ty:=.agg [I,I,I,I,I,I,I,I,I]
abbrev ew:Ty:=.agg [I,I]
abbrev eO:Ty:=.agg [I,I,I,I,I,I,I,I,I,I,I,I,I,I,I,(.slice Y9),(.slice ew),(.slice Y9),(.slice Y6)]
abbrev vg:Ty:=.agg [I,(.slice ew)]
abbrev fZ:Ty:=.agg [I,I,I,I,I,I,.bool]
abbrev I8:Ty:=.agg [(.slice .str),(.slice Y0),(.slice Y1),(.slice Y2),(.slice Y5),(.slice Y6),(.slice Y7),(.slice Y6),I,I,I,I,I,I,I,I,I,I,I,I,I,I,I,I,I,(.slice Y9),(.slice ew),(.slice Y9),(.slice Y6),I,I]
abbrev vh:Ty:=.agg [(.int .u64),(.int .u64)]
abbrev I9:Ty:=.agg [I,I,I,I,I,I,I,I,I,I,I,I,I,I,I]
abbrev D0:Ty:=.agg [.bool,I,I,(.slice I),I]
abbrev tQ:Ty:=.agg [I,I,(.slice .trm)]
abbrev rW:Ty:=.agg [I,I,I,I,I,I,I,I,I,I,I,I,I,I,I,(.slice Y9),(.slice ew),(.slice Y9),(.slice Y6),I,I,I,I,I]
abbrev lS:Ty:=.agg [.bool,I]
abbrev Y21:Ty:=.agg [(.slice lS)]
abbrev Y22:Ty:=.agg [(.slice I),I]
def wU:List (Nat×Sig):=[
 (4,⟨[Y8,I,eO,I,vg],.bool,.dat⟩),
 (5,⟨[],.bool,.dat⟩),
 (6,⟨[Y8,eO,vg],.bool,.dat⟩),
 (8,⟨[Y8,I,eO,I,vg],(.tup [I,I]),.dat⟩),
 (9,⟨[Y8,I,eO,I,vg],(.tup [I,I]),.dat⟩),
 (10,⟨[Y8,I,eO,I],(.slice fZ),(.row 59 fZ)⟩),
 (11,⟨[fZ],.bool,.dat⟩),
 (12,⟨[Y8,I,eO,I,I],(.slice I),.dat⟩),
 (13,⟨[I,I],(.tup [ew,I]),.dat⟩),
 (14,⟨[ew,ew],(.tup [ew,I]),.dat⟩),
 (15,⟨[ew,ew],(.tup [ew,I]),.dat⟩),
 (16,⟨[ew,ew],I,.dat⟩),
 (17,⟨[],Y8,.dat⟩),
 (18,⟨[Y8,(.slice I),vg],(.tup [I,I]),.dat⟩),
 (19,⟨[],vg,.dat⟩),
 (20,⟨[I,I],eO,.dat⟩),
 (21,⟨[vg],I,.dat⟩),
 (22,⟨[(.slice I),(.slice I)],.bool,.dat⟩),
 (23,⟨[Y8,eO],.bool,.dat⟩),
 (24,⟨[Y8],I,.dat⟩),
 (25,⟨[Y8,eO],I,.dat⟩),
 (30,⟨[Y8,I,eO,I],I,.dat⟩),
 (31,⟨[I,I,I],(.tup [I,I]),.dat⟩),
 (32,⟨[Y8,I],.bool,.dat⟩),
 (33,⟨[Y8,I,eO,I],(.slice fZ),(.row 59 fZ)⟩),
 (34,⟨[(.slice fZ),(.fn [fZ,fZ] I)],(.tup []),(.ob [(.obj 0 0),(.dat (.fn [fZ,fZ] I))] [(0,(.row 59 fZ))])⟩),
 (35,⟨[fZ,fZ],I,.dat⟩),
 (36,⟨[Y8,(.slice I),vg],I,.dat⟩),
 (37,⟨[Y8,(.slice fZ),I],(.slice I),(.row 3 I)⟩),
 (38,⟨[Y8,I,eO,I],I8,.dat⟩),
 (39,⟨[I8,I],fZ,.dat⟩),
 (40,⟨[I],(.int .u64),.dat⟩),
 (41,⟨[(.int .u64),(.int .u64)],(.int .u64),.dat⟩),
 (42,⟨[.bool,vh,vh],(.tup [ew,I]),.dat⟩),
 (43,⟨[ew],.bool,.dat⟩),
 (44,⟨[(.int .u64),(.int .u64)],vh,.dat⟩),
 (45,⟨[ew,ew],(.tup [ew,I]),.dat⟩),
 (46,⟨[vh,.bool,vh,.bool],(.tup [vh,.bool]),.dat⟩),
 (47,⟨[ew],.bool,.dat⟩),
 (48,⟨[(.slice ew),(.fn [ew] .bool)],.bool,.dat⟩),
 (49,⟨[Y8],.bool,.dat⟩),
 (50,⟨[eO],.bool,.dat⟩),
 (51,⟨[Y5],.bool,.dat⟩),
 (52,⟨[Y8],I,.dat⟩),
 (53,⟨[Y8],I,.dat⟩),
 (54,⟨[Y8],I,.dat⟩),
 (55,⟨[Y8],I,.dat⟩),
 (56,⟨[Y8],I,.dat⟩),
 (57,⟨[Y8,I9],I,.dat⟩),
 (58,⟨[Y8,eO,I],I,.dat⟩),
 (59,⟨[I,I,I],.bool,.dat⟩),
 (60,⟨[Y8,eO],I,.dat⟩),
 (61,⟨[eO],I,.dat⟩),
 (62,⟨[eO,I],eO,.dat⟩),
 (63,⟨[D0],I,.dat⟩),
 (64,⟨[Y8,I,I,eO,I],D0,.dat⟩),
 (65,⟨[Y8,I9,I,I],(.tup [I,I]),.dat⟩),
 (66,⟨[eO],I,.dat⟩),
 (67,⟨[I,I],.bool,.dat⟩),
 (68,⟨[I,I,I],(.tup [I,I,.bool]),.dat⟩),
 (69,⟨[(.slice fZ),(.fn [fZ] .bool)],(.slice fZ),(.ob [(.obj 0 0),(.dat (.fn [fZ] .bool))] [(0,(.row 59 fZ)),(1,.tr)])⟩),
 (70,⟨[fZ],.bool,.dat⟩),
 (73,⟨[(.slice I)],(.slice I),(.row 3 I)⟩),
 (74,⟨[(.slice I),(.fn [I,I] I)],(.tup []),(.ob [(.obj 0 0),(.dat (.fn [I,I] I))] [(0,(.row 3 I))])⟩),
 (75,⟨[I,I,(.ref Y8)],I,.dat⟩),
 (76,⟨[(.slice I)],(.tup []),(.ob [(.obj 0 0)] [(0,(.row 3 I))])⟩),
 (77,⟨[(.slice I)],(.slice I),(.ob [(.obj 0 0)] [(0,(.row 3 I)),(1,.tr)])⟩),
 (78,⟨[D0],I,.dat⟩),
 (79,⟨[eO,I,I],.bool,.dat⟩),
 (80,⟨[(.slice I)],I,.dat⟩),
 (81,⟨[I8,I,I],I,.dat⟩),
 (82,⟨[I8,I],(.tup [I,I]),.dat⟩),
 (83,⟨[(.int .u64),(.int .u64)],(.tup [(.int .u64),(.int .u64)]),.dat⟩),
 (84,⟨[(.int .u64),(.int .u64),(.int .u64)],(.int .u64),.dat⟩),
 (85,⟨[vh,(.int .u64)],vh,.dat⟩),
 (88,⟨[(.slice ew),(.fn [ew] .bool)],I,.dat⟩),
 (89,⟨[tQ],.bool,.dat⟩),
 (90,⟨[(.slice .str),I],I,.dat⟩),
 (91,⟨[Y8,Y0],.bool,.dat⟩),
 (92,⟨[I,I,I],.bool,.dat⟩),
 (93,⟨[Y5],.bool,.dat⟩),
 (94,⟨[Y8],I,.dat⟩),
 (95,⟨[I,I],.bool,.dat⟩),
 (96,⟨[I9],.bool,.dat⟩),
 (97,⟨[Y8,I,I],(.tup [I,I]),.dat⟩),
 (98,⟨[Y8,eO,I],.bool,.dat⟩),
 (99,⟨[Y8,eO,Y9],.bool,.dat⟩),
 (100,⟨[(.slice I)],I,.dat⟩),
 (101,⟨[I,I],I,.dat⟩),
 (102,⟨[I,I],.bool,.dat⟩),
 (103,⟨[Y8,I,I,rW],D0,.dat⟩),
 (104,⟨[Y8,I],.bool,.dat⟩),
 (105,⟨[I],.bool,.dat⟩),
 (106,⟨[Y6],.bool,.dat⟩),
 (107,⟨[Y8,I9,I],(.tup [I,I]),.dat⟩),
 (108,⟨[Y8,I,I],(.tup [I,I]),.dat⟩),
 (109,⟨[(.slice I)],I,.dat⟩),
 (110,⟨[(.int .u64),(.int .u64),(.int .u64)],(.tup [(.int .u64),(.int .u64)]),.dat⟩),
 (121,⟨[(.int .u64)],I,.dat⟩),
 (124,⟨[eO,I],(.map I .bool),.dat⟩),
 (125,⟨[eO,I],I,.dat⟩),
 (126,⟨[tQ,I,I],I,.dat⟩),
 (127,⟨[.str],.bool,.dat⟩),
 (128,⟨[(.slice .str),I,.str],.bool,.dat⟩),
 (129,⟨[(.slice I),I,I],.bool,.dat⟩),
 (130,⟨[Y8],(.tup [(.slice .str),(.slice .str),(.slice .str)]),.dat⟩),
 (131,⟨[(.slice .str),I,(.fn [I] .bool)],I,.dat⟩),
 (132,⟨[I],.bool,.dat⟩),
 (133,⟨[I,(.ref Y8)],.bool,.dat⟩),
 (134,⟨[Y8,Y0],.bool,.dat⟩),
 (135,⟨[I,I],.bool,.dat⟩),
 (136,⟨[I,(.ref Y8)],.bool,.dat⟩),
 (137,⟨[I,(.ref Y8)],.bool,.dat⟩),
 (138,⟨[Y5],.bool,.dat⟩),
 (139,⟨[Y8],I,.dat⟩),
 (140,⟨[Y8],I,.dat⟩),
 (141,⟨[eO,I,(.slice I)],.bool,.dat⟩),
 (142,⟨[eO,I,I],.bool,.dat⟩),
 (143,⟨[I],.bool,.dat⟩),
 (144,⟨[Y8,I,I,rW],(.tup [D0,(.slice lS)]),.dat⟩),
 (145,⟨[Y5,I,(.slice lS)],(.tup [lS,I]),.dat⟩),
 (146,⟨[I,Y6],(.tup [I,I]),.dat⟩),
 (147,⟨[Y8,I],I,.dat⟩),
 (148,⟨[Y8,I,I],I,.dat⟩),
 (149,⟨[Y0,I],(.tup [I,I]),.dat⟩),
 (150,⟨[(.int .u64)],I,.dat⟩),
 (173,⟨[(.int .u8)],.bool,.dat⟩),
 (174,⟨[(.slice .str),I],I,.dat⟩),
 (175,⟨[(.slice I),I,I],.bool,.dat⟩),
 (176,⟨[(.slice I),I],.bool,.dat⟩),
 (177,⟨[Y8,rW],(.tup [rW,(.slice lS)]),.dat⟩),
 (178,⟨[I],(.tup [I,.bool]),.dat⟩),
 (179,⟨[Y8,I,rW],(.nsl I),.dat⟩),
 (180,⟨[Y8,I,I,(.slice I)],(.tup [(.slice I),I]),.dat⟩),
 (181,⟨[Y5,I],(.tup [tQ,I]),.dat⟩),
 (182,⟨[tQ,(.slice lS)],lS,.dat⟩),
 (183,⟨[I,I],(.tup [I,I]),.dat⟩),
 (184,⟨[I],.bool,.dat⟩),
 (185,⟨[Y0,I,I],(.fn [(.fn [I] .bool)] (.tup [])),.dat⟩),
 (193,⟨[.str],.bool,.dat⟩),
 (194,⟨[(.slice .str),.str],.bool,.dat⟩),
 (195,⟨[(.slice I),I],I,.dat⟩),
 (196,⟨[Y8,rW],(.slice lS),.dat⟩),
 (197,⟨[Y8,I,I,(.slice I)],.bool,.dat⟩),
 (198,⟨[Y8,I,I,(.slice I)],(.tup [I,.bool]),.dat⟩),
 (199,⟨[(.slice Y4),(.fn [Y4] .bool)],I,.dat⟩),
 (200,⟨[Y4,(.ref I)],.bool,.dat⟩),
 (201,⟨[tQ],(.tup [I,I]),.dat⟩),
 (202,⟨[Y21,tQ],(.tup [lS,(.slice I)]),.dat⟩),
 (203,⟨[I],(.tup [I,I,I]),.dat⟩),
 (204,⟨[I,I,I],(.tup [I,I]),.dat⟩),
 (205,⟨[I,I],I,.dat⟩),
 (207,⟨[Y0,I],.bool,.dat⟩),
 (210,⟨[(.slice .str),.str],I,.dat⟩),
 (211,⟨[(.slice ew),(.fn [ew] .bool)],.bool,.dat⟩),
 (212,⟨[ew,(.ref rW)],.bool,.dat⟩),
 (213,⟨[.bool],lS,.dat⟩),
 (214,⟨[eO,I,I],lS,.dat⟩),
 (215,⟨[(.slice I),(.fn [I] .bool)],.bool,.dat⟩),
 (216,⟨[I,(.ref I)],.bool,.dat⟩),
 (217,⟨[tQ,I],I,.dat⟩),
 (218,⟨[tQ],(.tup [I,I]),.dat⟩),
 (219,⟨[Y21,I],lS,.dat⟩),
 (220,⟨[I,(.slice lS)],lS,.dat⟩),
 (221,⟨[(.slice (.slice I))],(.slice I),.dat⟩),
 (222,⟨[I,I,I],I,.dat⟩),
 (223,⟨[(.slice ew),(.fn [ew] .bool)],I,.dat⟩),
 (224,⟨[(.slice I),(.fn [I] .bool)],I,.dat⟩),
 (225,⟨[tQ],(.tup [I,I]),.dat⟩),
 (226,⟨[I],Y22,.dat⟩),
 (227,⟨[I],(.tup [I,.bool]),.dat⟩),
 (228,⟨[.bool],lS,.dat⟩),
 (229,⟨[I],I,.dat⟩),
 (230,⟨[I,I,I],I,.dat⟩),
 (231,⟨[.nils .bool,I],(.slice I),(.row 3 I)⟩),
 (232,⟨[I,I],I,.dat⟩)]
def QZ:List (Nat×CSig):=[
 (35,⟨[],[fZ,fZ],I⟩),
 (47,⟨[],[ew],.bool⟩),
 (70,⟨[],[fZ],.bool⟩),
 (75,⟨[(.ref Y8)],[I,I],I⟩),
 (132,⟨[],[I],.bool⟩),
 (133,⟨[(.ref Y8)],[I],.bool⟩),
 (136,⟨[(.ref Y8)],[I],.bool⟩),
 (137,⟨[(.ref Y8)],[I],.bool⟩),
 (200,⟨[(.ref I)],[Y4],.bool⟩),
 (206,⟨[(.ref I),(.ref I),(.ref Y0)],[(.fn [I] .bool)],(.tup [])⟩),
 (212,⟨[(.ref rW)],[ew],.bool⟩),
 (216,⟨[(.ref I)],[I],.bool⟩)]
noncomputable def ctx:Ctx:={P:=Tryz.prog,cap:=bL QZ,sig:=bL wU,avB:=fun _=>none,glob:=OY 2 [6,7,10,12,13,14,15,16,20,21]}
abbrev OG (i:Nat):Sig:=(bL wU i).getD default
def cF (a b:List Nat)(f:Func)(i:Nat)(l:List Nat):Option PC:=my {ctx with fr:=a,nh:=b} f (OG i) l
theorem aQ {o:Option PC}{t:PT}{l:List (Shp×PT)}(h:o.map told=some (t,l)):tree (ab o)=t:=bG (F:=fun _=>(t,l)) h
theorem ar (o:Option PC){p:PT×List (Shp×PT)}(h:o.map told=some p):o=some (ab o):=ay2 (F:=fun _=>p) h
theorem av (l a b:List Nat){f:Nat}{fn:Func}{c:PC}(h0:ctx.P.funcs[f]?=some fn)(h1:ctx.sig f=some (OG f))(h2:my {ctx with fr:=a,nh:=b} fn (OG f) l=some c):∃fn s ids fr nh,ctx.P.funcs[f]?=some fn∧ctx.sig f=some s∧my {ctx with fr:=fr,nh:=nh} fn s ids=some c:=⟨fn,OG f,l,a,b,h0,h1,h2⟩
abbrev kM:PE:=.setc (.con (.agg [(.int 0),(.int 0),(.int 0),(.int 0),(.int 0),(.int 0),(.int 0),(.int 0),(.int 0),(.int 0),(.int 0),(.int 0),(.int 0),(.int 0),(.int 0),(.list []),(.list []),(.list []),(.list [])])) 0 (.mk [(az 15 (.setc IK 0 (.mk [(pi 0),(pi 1),(pi 0),(pi 1000),(pi 0),(.mk [(pi 3),(pi 40),(pi 0)]),(pi 2),(pi 0),(pi 0),(pi (-1)),(pi 0),(pi 1),(pi 1)]))),(.lst [(az 9 (.setc z9 0 (.mk [(pi 0),(pi 0),(pi 0),(pi (-1)),(pi (-1)),(pi 0),(pi 2),(pi 0),(pi 0)]))),(az 9 (.setc z9 0 (.mk [(pi 1),(pi 0),(pi 1),(pi (-1)),(pi (-1)),r0,(pi 3),(pi 0),(pi 0)])))]),pL,pL,(.lst [(.mk [(pi 0),(pi 0),r1]),(.mk [(pi 0),(pi 1),(pi 1)])])])
abbrev GU:PE:=.setc (.con (.agg [(.list []),(.list []),(.list []),(.list []),(.list []),(.list []),(.list []),(.list [])])) 0 (.mk [(.lst [(.con (.v (.string ⟨#[102,114,97,110,99]⟩)))]),(.lst [(.mk [(.con (.v (.string ⟨#[76,121,111,110]⟩))),(pi 0),(pi 0),pL,pL,pL])]),(.lst [(.mk [(pi 3)]),(.mk [(pi 5)])]),(.lst [(.mk [(.con (.v (.string ⟨#[97]⟩))),(pi 0),(pi 1)]),(.mk [(.con (.v (.string ⟨#[98]⟩))),(pi 0),(pi 0)])]),(.lst [(.mk [(pc (.setc (.con (.agg [(.v (.string ⟨#[]⟩)),(.bool false),(.list []),(.list [])])) 0 (.mk [(.con (.v (.string ⟨#[103,101,110,101,118,97]⟩))),pF,pL,(.lst [(.mk [(pi 0),(.mk [(pc (.setc (.con (.agg [(.int 0),(.int 0),(.list [])])) 0 (.mk [(pi 1),(pi 1),pL])) 0),(pc (.setc (.con (.agg [(.int 0),(.int 0),(.list [])])) 0 (.mk [(pi 1),(pi 1),pL])) 1),pL])]),(.mk [(pi 1),(.mk [(pc (.setc (.con (.agg [(.int 0),(.int 0),(.list [])])) 0 (.mk [(pi 1),(pi 1),pL])) 0),(pc (.setc (.con (.agg [(.int 0),(.int 0),(.list [])])) 0 (.mk [(pi 1),(pi 1),pL])) 1),pL])]),(.mk [(pi 2),(.mk [(pi 2),(pi 15),pL])])])])) 0),(pc (.setc (.con (.agg [(.v (.string ⟨#[]⟩)),(.bool false),(.list []),(.list [])])) 0 (.mk [(.con (.v (.string ⟨#[103,101,110,101,118,97]⟩))),pF,pL,(.lst [(.mk [(pi 0),(.mk [(pc (.setc (.con (.agg [(.int 0),(.int 0),(.list [])])) 0 (.mk [(pi 1),(pi 1),pL])) 0),(pc (.setc (.con (.agg [(.int 0),(.int 0),(.list [])])) 0 (.mk [(pi 1),(pi 1),pL])) 1),pL])]),(.mk [(pi 1),(.mk [(pc (.setc (.con (.agg [(.int 0),(.int 0),(.list [])])) 0 (.mk [(pi 1),(pi 1),pL])) 0),(pc (.setc (.con (.agg [(.int 0),(.int 0),(.list [])])) 0 (.mk [(pi 1),(pi 1),pL])) 1),pL])]),(.mk [(pi 2),(.mk [(pi 2),(pi 15),pL])])])])) 1),pL,(pc (.setc (.con (.agg [(.v (.string ⟨#[]⟩)),(.bool false),(.list []),(.list [])])) 0 (.mk [(.con (.v (.string ⟨#[103,101,110,101,118,97]⟩))),pF,pL,(.lst [(.mk [(pi 0),(.mk [(pc (.setc (.con (.agg [(.int 0),(.int 0),(.list [])])) 0 (.mk [(pi 1),(pi 1),pL])) 0),(pc (.setc (.con (.agg [(.int 0),(.int 0),(.list [])])) 0 (.mk [(pi 1),(pi 1),pL])) 1),pL])]),(.mk [(pi 1),(.mk [(pc (.setc (.con (.agg [(.int 0),(.int 0),(.list [])])) 0 (.mk [(pi 1),(pi 1),pL])) 0),(pc (.setc (.con (.agg [(.int 0),(.int 0),(.list [])])) 0 (.mk [(pi 1),(pi 1),pL])) 1),pL])]),(.mk [(pi 2),(.mk [(pi 2),(pi 15),pL])])])])) 3)])]),pL,pL,pL])
abbrev zE:PE:=.ai .quo .i64 (bm (aG (bm (.ai .rem .i64 (aG r0 (pi 730425)) (pi 146097)) (.ai .quo .i64 (.ai .rem .i64 (aG r0 (pi 730425)) (pi 146097)) (pi 1460))) (.ai .quo .i64 (.ai .rem .i64 (aG r0 (pi 730425)) (pi 146097)) (pi 36524))) (.ai .quo .i64 (.ai .rem .i64 (aG r0 (pi 730425)) (pi 146097)) (pi 146096))) (pi 365)
abbrev kO:PE:=.con (.v (.string ⟨#[0,1,2,2,3,3,3,3,4,4,4,4,4,4,4,4,5,5,5,5,5,5,5,5,5,5,5,5,5,5,5,5,6,6,6,6,6,6,6,6,6,6,6,6,6,6,6,6,6,6,6,6,6,6,6,6,6,6,6,6,6,6,6,6,7,7,7,7,7,7,7,7,7,7,7,7,7,7,7,7,7,7,7,7,7,7,7,7,7,7,7,7,7,7,7,7,7,7,7,7,7,7,7,7,7,7,7,7,7,7,7,7,7,7,7,7,7,7,7,7,7,7,7,7,7,7,7,7,8,8,8,8,8,8,8,8,8,8,8,8,8,8,8,8,8,8,8,8,8,8,8,8,8,8,8,8,8,8,8,8,8,8,8,8,8,8,8,8,8,8,8,8,8,8,8,8,8,8,8,8,8,8,8,8,8,8,8,8,8,8,8,8,8,8,8,8,8,8,8,8,8,8,8,8,8,8,8,8,8,8,8,8,8,8,8,8,8,8,8,8,8,8,8,8,8,8,8,8,8,8,8,8,8,8,8,8,8,8,8,8,8,8,8,8,8,8,8,8,8,8,8,8,8,8,8,8]⟩))
abbrev zH:PE:=.ai .or .u64 (.ai .shl .u64 r0 (.conv .u64 pV)) (.ai .shr .u64 r1 (.ai .sub .u64 (.con (.v (.int .u64 64))) (.conv .u64 pV)))
abbrev gx:PE:=.con (.agg [(.bool false),(.int 0)])
abbrev tc:PE:=.ai .sub .u64 (.ai .add .u64 (.ai .mul .u64 bJ (.con (.v (.int .u64 4294967296)))) cZ) (.ai .mul .u64 cn r2)
abbrev rq:PE:=.ai .shr .u64 (.ai .shl .u64 r2 (.conv .u64 pV)) (.con (.v (.int .u64 32)))
abbrev NP:PE:=.ai .quo .i64 (aG (.ai .mul .i64 (pi 5) (bm (.ai .rem .i64 (aG r0 (pi 730425)) (pi 146097)) (bm (aG (.ai .mul .i64 (pi 365) zE) (.ai .quo .i64 zE (pi 4))) (.ai .quo .i64 zE (pi 100))))) (pi 2)) (pi 153)
abbrev zw:PE:=.con (.agg [(.int 0),(.int 0),(.int 0),(.int 0),(.int 0),(.int 0),(.int 0),(.int 0),(.int 0),(.int 0),(.int 0),(.int 0),(.int 0),(.int 0),(.int 0),(.list []),(.list []),(.list []),(.list [])])
abbrev s9:PE:=.deref (.con (.ref (.agg [(.int 6),(.int 7),(.int 10),(.int 12),(.int 13),(.int 14),(.int 15),(.int 16),(.int 20),(.int 21)])))
abbrev lE:PE:=.setc z3 0 (.mk [(pc (.mk [r0]) 5),(pc (.mk [r0]) 6),(pc (.mk [r0]) 7)])
abbrev Nt:PE:=.put (.put (.put (.put (.con (.map [])) (pi 7) (aF (.ai .and .i64 (pc o6 13) (pi 1)) (pi 0))) (pi 8) (peq (pc o6 2) (pi (-1)))) (pi 9) (aF (.ai .and .i64 (pc o6 13) (pi 4)) (pi 0))) (pi 10) (aF (.ai .and .i64 (pc o6 13) (pi 2)) (pi 0))
abbrev kN:PE:=.con (.v (.int .u64 4294967296))
abbrev VH:PE:=.mk [(pc (.mk [r0]) 10),(pc (.mk [r0]) 11),(pc (.mk [r0]) 12),(pc (.mk [r0]) 13),(pc (.mk [r0]) 14),(pc (.mk [r0]) 15),(pc (.mk [r0]) 16),(pc (.mk [r0]) 17),(pc (.mk [r0]) 18),(pc (.mk [r0]) 19),(pc (.mk [r0]) 20),(pc (.mk [r0]) 21),(pc (.mk [r0]) 22),(pc (.mk [r0]) 23),(pc (.mk [r0]) 24),(pc (.mk [r0]) 25),(pc (.mk [r0]) 26),(pc (.mk [r0]) 27),(pc (.mk [r0]) 28)]
abbrev wD:PE:=.con (.v (.int .u64 32))
abbrev mU:PE:=.con (.agg [(.int 0),(.int 0),(.list [])])
abbrev C3:PE:=.con (.agg [(.int 0),(.int 0),(.int 0),(.int 0),(.int 0),(.int 0),(.bool false)])
abbrev VI:PE:=.con (.agg [(.list []),(.list []),(.list []),(.list []),(.list []),(.list []),(.list []),(.list []),(.int 0),(.int 0),(.int 0),(.int 0),(.int 0),(.int 0),(.int 0),(.int 0),(.int 0),(.int 0),(.int 0),(.int 0),(.int 0),(.int 0),(.int 0),(.int 0),(.int 0),(.list []),(.list []),(.list []),(.list []),(.int 0),(.int 0)])
abbrev NB:PE:=.con (.agg [(.v (.int .u64 0)),(.v (.int .u64 0))])
abbrev cU:PE:=pi 4294967296
abbrev lX:PE:=.con (.agg [(.list []),(.int 0)])
abbrev zD:PE:=.con (.v (.int .u64 4294967295))
abbrev pM:PE:=.setc z9 0 (pn (pc (.mk [r1]) 15) r2)
abbrev kh:PE:=.con (.v (.int .u64 0))
abbrev C4:PE:=.mk [(pc (.setc gx 0 dD) 0),(pc (.setc gx 0 dD) 1)]
abbrev C5:PE:=.setc z9 0 (pn (pc (.mk [r2]) 15) (pc (.mk [r2]) 19))
abbrev ki:PE:=.setc (.mk [r3]) 18 pL
abbrev rn:PE:=.conv .u64 pV
abbrev VJ:PE:=.put (.put (.put (.con (.map [])) (pi 0) (pc o6 3)) (pi 1) (pc o6 14)) (pi 2) (pc o6 5)
abbrev NC:PE:=.pick (.pick (peq (.tget pR 0) (pi 0)) (pc cm 0) pF) (.setc cm 1 (.mn (.mx (pc cm 1) (pi 0)) (pi 20000))) cm
abbrev gw:PE:=pc (.mk [r0]) 0
abbrev GV:PE:=.mk [(pc (.setc o4 0 (.mk [pF,(pi 0)])) 0),(pc (.setc o4 0 (.mk [pF,(pi 0)])) 1)]
abbrev C6:PE:=.con (.agg [(.bool false),(.int 0),(.int 0),(.list []),(.int 0)])
abbrev ND:PE:=.con (.agg [(.int 0),(.int 0),(.bool false)])
abbrev NF:PE:=.ai .shr .u64 (.ai .sub .u64 (.ai .add .u64 (.ai .mul .u64 dB kN) bQ) (.ai .mul .u64 cv r2)) r8
abbrev zF:PE:=.setc (.setc cm 3 (.tget zJ 0)) 4 (.tget zJ 1)
abbrev iZ:PE:=pc (.mk [r0]) 1
abbrev uT:PE:=.ai .shr .u64 r0 wD
abbrev jP:PE:=az 8 (.mk [r0])
abbrev NG:PE:=.con (.v (.int .u64 16))
abbrev pO:PE:=.con (.v (.int .u64 8))
abbrev NH:PE:=aG (bm (aG (.ai .mul .i64 (pi 12) (.tget gy 0)) (.tget gy 1)) (pi 1)) r1
abbrev aiF:PE:=.con (.agg [(.int 0),(.int 0),(.int 0),(.int 0),(.int 0),(.int 0),(.int 0),(.int 0),(.int 0),(.int 0),(.int 0),(.int 0),(.int 0),(.int 0),(.int 0),(.list []),(.list []),(.list []),(.list []),(.int 0),(.int 0),(.int 0),(.int 0),(.int 0)])
abbrev zG:PE:=pc (.mk [r0]) 2
abbrev VK:PE:=.pick (bk cv kN) pT (aR (.ai .mul .u64 cv cV) (.ai .add .u64 (.ai .mul .u64 kN bT) bQ))
abbrev VL:PE:=.pick (bk cn kN) pT (aR (.ai .mul .u64 cn cV) (.ai .add .u64 (.ai .mul .u64 kN bT) cZ))
abbrev lY:PE:=.llen (pc o1 1)
abbrev VM:PE:=.mk [(pc (.setc o4 0 (.mk [(pi 0),(pi 0),pL])) 0),(pc (.setc o4 0 (.mk [(pi 0),(pi 0),pL])) 1),pL]
abbrev NI:PE:=.ai .sub .u64 zH (.ai .mul .u64 (.ai .quo .u64 zH rq) rq)
abbrev mV:PE:=.llen (pc o3 2)
abbrev NJ:PE:=.ai .sub .u64 tc (.ai .mul .u64 (.ai .quo .u64 tc r9) r9)
abbrev C7:PE:=.setc z3 0 (pn bY bQ)
abbrev VN:PE:=.mk [(pc (.setc o4 0 (.mk [(pi 0),(pi 0)])) 0),(pc (.setc o4 0 (.mk [(pi 0),(pi 0)])) 1)]
abbrev NK:PE:=bk (.ai .sub .u64 (.con (.v (.int .u64 64))) rn) (pi 0)
abbrev NL:PE:=.setc z2 0 (pn (pc o5 1) (pc (pn (pc o3 2) (pn o1 cv)) 0))
abbrev ox:PE:=.llen (pc o1 3)
abbrev VO:PE:=az 5 (.setc o8 0 (.mk [(pc cm 0),(pc cm 1),(pc cm 2),(.o 16394),(pc cm 4)]))
abbrev zI:PE:=.setc NB 0 (.tget wH 0)
abbrev pP:PE:=.llen (pc o1 4)
abbrev kj:PE:=pn bQ bT
abbrev aiG:PE:=.pick (.pick (.pick (ak (pc C5 2) (pi 0)) pT (bk (pc C5 2) (.llen (pc (.mk [r0]) 3)))) pT (ak r1 (pi 0))) pT (bk r1 (.llen (pc (.mk [r0]) 4)))
abbrev rp:PE:=pc (.mk [r0]) 15
abbrev VP:PE:=.put (.con (.map [])) (pi 7) (aF (.ai .and .i64 (pc o6 13) (pi 1)) (pi 0))
abbrev GW:PE:=.ai .shl .u64 r2 rn
abbrev aiH:PE:=.ai .shl .u64 r1 rn
abbrev aiI:PE:=.ai .add .u64 (.ai .mul .u64 uT (.ai .and .u64 r1 zD)) (.ai .shr .u64 (.ai .mul .u64 (.ai .and .u64 r0 zD) (.ai .and .u64 r1 zD)) wD)
abbrev aiJ:PE:=.pick (.pick (peq (.tget dC 0) kh) (ak (.tget dC 1) (.con (.v (.int .u64 1099511627776)))) pF) (.conv .i64 (.tget dC 1)) (pi 1099511627776)
abbrev GX:PE:=.setc z9 0 (pn (pc (.mk [r0]) 25) r1)
abbrev aiK:PE:=.setc z2 0 (.mk [(.pick r0 (bm (pi 0) (.conv .i64 (pc (.mk [r1]) 1))) (.conv .i64 (pc (.mk [r1]) 1))),(.conv .i64 (pc (.mk [r2]) 1))])
abbrev aiL:PE:=.app o2 (.lst [(pc (.setc (.con (.agg [(.v (.string ⟨#[]⟩)),(.int 0),(.int 0),(.list []),(.list []),(.list [])])) 0 (pn bY bQ)) 0)])
abbrev td:PE:=pi 1000000000
abbrev GY:PE:=bm (pi 2) (pc (pn o7 (pi 0)) 1)
abbrev NM:PE:=.setc mU 0 (.sub (pn (pc o2 3) gy) 1 3)
abbrev tg:PE:=.llen (pc o1 2)
abbrev NN:PE:=.ai .add .u64 (.ai .mul .u64 cn kN) cv
abbrev NO:PE:=.pick (ak r1 (pi 3)) (bm r0 (pi 1)) r0
abbrev aiM:PE:=.app o4 (.lst [(pc (.setc (.con (.agg [(.v (.string ⟨#[]⟩)),(.bool false),(.list []),(.list [])])) 0 (pn gZ pX)) 0)])
abbrev aiN:PE:=.setc (.con (.agg [(.list []),(.list []),(.list []),(.list []),(.list []),(.list []),(.list []),(.list [])])) 0 bQ
abbrev aiO:PE:=.put (.put (.put Nt (pi 11) (aF NR VU)) (pi 12) cZ) (pi 13) (aF (.ai .and .i64 (pc o8 8) (pi 1)) (pi 0))
abbrev ru:PE:=pn r1 (pi 1)
abbrev pQ:PE:=pn cV bY
abbrev aiP:PE:=.setc o0 0 (.mk [(pi 100),(.setn (.setn o1 (pi 3) 0 (.mk [(pi 1),(pi 10)])) (pi 5) 0 (.mk [(pi 1),(pi 2)]))])
abbrev uU:PE:=aG r8 (pi 1)
abbrev VQ:PE:=.put (.put VJ (pi 3) (pc o6 12)) (pi 4) (pc o8 0)
abbrev aiQ:PE:=.pick (aR (.llen (pc (pn (pc o1 1) r3) 4)) (pi 70)) pT (aR (.llen (pc (pn (pc o1 1) r3) 5)) (pi 210))
abbrev rv:PE:=ak bQ cZ
abbrev GZ:PE:=.setc ND 0 (pn gy jQ)
abbrev ry:PE:=.llen zG
abbrev aiR:PE:=.app o3 (.lst [(pc (.setc (.con (.agg [(.v (.string ⟨#[]⟩)),(.int 0),(.int 0)])) 0 (pn jQ dD)) 0)])
abbrev aiS:PE:=.app o4 (.lst [(pc (.setc (.con (.agg [(.int 0),(.int 0),(.int 0),(.list [])])) 0 (pn dD mX)) 0)])
abbrev wF:PE:=pc (.mk [r0]) 5
abbrev wG:PE:=.llen (pc o1 0)
abbrev aiT:PE:=.an (.cb .eql (pc (pn r1 (pi 0)) 0) (pc C4 0)) (.an (peq (pc (pn r1 (pi 0)) 1) (pc C4 1)) pT)
abbrev aiU:PE:=.app (.o 69637) (.lst [(.mk [(pc (.setc z2 0 (pn l7 tj)) 0),(pc (.setc z2 0 (pn l7 tj)) 1)])])
abbrev G0:PE:=.ai .shr .u64 uT NG
abbrev C8:PE:=.conv .u64 (pc o3 1)
abbrev C9:PE:=.ai .add .u64 bT r9
abbrev VR:PE:=.setc o4 0 (.mk [(pc o9 0),(pc o9 1),(pc o9 2)])
abbrev Vz:PE:=.setc (.setc o6 4 (.tget mY 0)) 5 (.tget mY 1)
abbrev No:PE:=.setc z2 0 (.mk [(pi 0),(pi 0)])
abbrev Np:PE:=.setc o4 0 (.mk [(pi 0),(pi 1)])
abbrev ait:PE:=.pick (.nt (.nt (.an (.an bQ pT) (.nt pF)))) (.app (.o 1000) (.lst [(.tup [r5])])) (.o 1000)
abbrev wB:PE:=aG r3 (pi 1)
abbrev CZ:PE:=aF (pi 100) (pi 0)
abbrev zx:PE:=pi 1099511627776
abbrev aiu:PE:=.pick (aR (aG NP (pi 3)) (pi 12)) (bm (aG NP (pi 3)) (pi 12)) (aG NP (pi 3))
abbrev aiv:PE:=.setc o4 0 (.mk [(pc (.setc gx 0 (.tget gY 0)) 0),(pc (.setc gx 0 (.tget gY 0)) 1)])
abbrev GL:PE:=.tget (.o 1000000013) 1
abbrev GM:PE:=.setc z9 0 (pn G4 jR)
abbrev GN:PE:=.llen (pc (.mk [r0]) 4)
abbrev GO:PE:=.con (.v (.int .u64 1))
abbrev Nq:PE:=.setc gx 0 (.mk [pT,(pi 1)])
abbrev Nr:PE:=.setc gx 0 (.mk [pT,(pi 0)])
abbrev Ns:PE:=bm (.llen (pc o3 3)) (pi 1)
abbrev zy:PE:=pn (pc o1 4) r4
abbrev VA:PE:=peq (.sidx r0 r3) (.con (.v (.int .u8 95)))
abbrev zz:PE:=aG bY (pi 1)
abbrev aiw:PE:=aG (.ai .mul .i64 (.ai .rem .i64 (bm (pc MJ 5) cn) td) (bm td l7)) bQ
abbrev aix:PE:=.pick (.pick (peq (pc C7 0) r1) (bI (pc C7 1) r2) pF) (bI r2 (pc C7 2)) pF
abbrev zA:PE:=.mk [pF,(pi 0)]
abbrev zB:PE:=.llen (pc o1 7)
abbrev GP:PE:=.con (.agg [(.int 0)])
abbrev GQ:PE:=.ai .shr .u64 r0 NG
abbrev aiy:PE:=aG zE (.ai .mul .i64 (pi 400) (.ai .quo .i64 (aG r0 (pi 730425)) (pi 146097)))
abbrev VB:PE:=.con (.v (.int .u64 1152921504606846976))
abbrev VC:PE:=.app o5 (.lst [(pc (pn (pc o1 1) r6) 0)])
abbrev VD:PE:=.app o4 (.lst [(pc (pn (pc o1 3) r5) 0)])
abbrev zC:PE:=aG r5 (pi 1)
abbrev Nu:PE:=.setc NB 0 (.tget jR 0)
abbrev GR:PE:=.conv .u64 (pc o2 1)
abbrev C0:PE:=bk wD (pi 0)
abbrev aiz:PE:=.pick (aR (.tget mX 1) (pi 0)) (aG (.tget mX 0) (pi 1)) (.tget mX 0)
abbrev VE:PE:=.setc C3 0 (.sub (pn Uj pW) 0 7)
abbrev Nv:PE:=.mk [(pc o9 0),(pc o9 1)]
abbrev Nw:PE:=.con (.v (.int .u64 256))
abbrev Nx:PE:=.ai .shr .u64 aiH wD
abbrev Ny:PE:=.ai .and .u64 aiH zD
abbrev Nz:PE:=.ai .and .u64 GW zD
abbrev wC:PE:=ak bY bJ
abbrev C1:PE:=pc (.mk [r0]) 6
abbrev VF:PE:=.pick (bk r0 (pi 0)) (ak r0 r1) pF
abbrev C2:PE:=.llen (pc o1 5)
abbrev aiA:PE:=.setc o4 0 (.mk [(pc (.setc gx 0 NU) 0),(pc (.setc gx 0 NU) 1)])
abbrev aiB:PE:=.setc o4 0 (.mk [(pc (.setc gx 0 lZ) 0),(pc (.setc gx 0 lZ) 1)])
abbrev aiC:PE:=.setc lX 0 (.mk [(.lst [(pi 1),(pi (-1)),(pi (-1))]),(pi (-1))])
abbrev aiD:PE:=.pick (aF (pc o3 22) (pi (-1))) (bm (pc o8 6) (pc o3 22)) (pi 0)
abbrev aiE:PE:=.app o7 (.lst [(pc (pn (pc o3 3) (pc (.setc C3 0 pQ) 2)) 2)])
abbrev VG:PE:=.ai .rem .i64 (pn r8 cV) (pi 100)
abbrev NA:PE:=.ai .quo .u64 zH rq
abbrev GS:PE:=az 19 (.mk [r2])
end Rm
namespace Rm
open Go Cx Go.Sort
def wx (key:D→Int)(xs:List D){n:Nat}(i j:Fin n):Bool:=decide (key (xs.getD i .none)-key (xs.getD j .none)<0)
def oC (key:D→Int)(xs:List D)(n:Nat):Array (Fin (n+1)):=pdq (wx key xs) (Array.ofFn id) 0 (n+1) (Lib.bitLen (n+1)) true true
def gE (key:D→Int)(xs:List D):List D:=
 match xs.length with
 |0=>[]
 |n+1=>(oC key xs n).toList.map fun i:Fin (n+1)=>xs.getD i .none
theorem Xn (key:D→Int)(xs:List D)(n:Nat):SWO (wx key xs (n:=n)) where
 irrefl x:=by simp[wx]
 trans x y z h1 h2:=by simp[wx] at*;omega
 ntrans x y z h1 h2:=by simp[wx] at*;omega
theorem Xj (key:D→Int)(xs:List D)(n:Nat):PermIn 0 (n+1) (Array.ofFn (id:Fin (n+1)→Fin (n+1))) (oC key xs n)∧SortedIn (wx key xs) 0 (n+1) (oC key xs n):=by
 have h:=pdq_sorts (wx key xs (n:=n+1)) (Xn key xs (n+1)) (Array.ofFn id) 0 (n+1) (Lib.bitLen (n+1)) true true (kU _) (by simp) (Or.inl rfl);exact⟨h.1,h.2⟩
theorem agf {xs:List D}{n:Nat}(h:xs.length=n):(Array.ofFn (id:Fin n→Fin n)).toList.map (fun i:Fin n=>xs.getD i .none)=xs:=by
 apply PA
 ·simp[h]
 ·intro i h1 h2;simp[h2]
theorem OO (key:D→Int)(xs:List D)(n:Nat):(oC key xs n).size=n+1:=by
 have:=(Xj key xs n).1.1;simpa using this
theorem rK (key:D→Int)(xs:List D):(gE key xs).Perm xs:=by
 unfold gE;split
 ·rename_i h;rw[ve.1 h]
 ·rename_i n h;have h1:=(Xj key xs n).1.2.2;have hz:=OO key xs n;have e1:(oC key xs n).extract 0 (n+1)=oC key xs n:=by
   apply Array.ext
   ·simp[hz]
   ·intro i h1 h2;simp
  have e2:(Array.ofFn (id:Fin (n+1)→Fin (n+1))).extract 0 (n+1)=Array.ofFn id:=by simp
  rw[e1,e2] at h1;have h2:=h1.map fun i:Fin (n+1)=>xs.getD i .none;rw[agf h] at h2;exact h2
theorem ajZ (key:D→Int)(xs:List D):(gE key xs).Pairwise fun a b=>key a≤key b:=by
 unfold gE;split
 ·exact .nil
 ·rename_i n h;have h1:=(Xj key xs n).2;have hz:=OO key xs n;rw[I0,PG];intro i j hi hj dH;have db:i<(oC key xs n).size:=by simpa using hi
  have bK:j<(oC key xs n).size:=by simpa using hj
  have h2:=h1 i j (kU _) dH (by omega);rw[getElem!_pos _ i db,getElem!_pos _ j bK] at h2;simp[wx] at h2;simp;omega
theorem E9 {α:Type}{f:α→List Value}{k:Nat}(hk:∀x,(f x).length=k):∀(l:List α) (i j:Nat) (x:α),l[i]?=some x→j<k→(l.flatMap f)[i*k+j]?=(f x)[j]?
 |[],i,j,x,h,_=>by simp at h
 |y::l,0,j,x,h,hj=>by
  simp at h;subst h;rw[vd,xL,je,oJ (by rw[hk];exact hj)]
 |y::l,i+1,j,x,h,hj=>by
  rw[vd,oK (by rw[hk,gI];omega),hk,show(i+1)*k+j-k=i*k+j by rw[gI];omega];exact E9 hk l i j x (by simpa using h) hj
theorem Fa {α:Type}{f:α→List Value}{k:Nat}(hk:∀x,(f x).length=k)(l:List α):(l.flatMap f).length=l.length*k:=by
 induction l with
 |nil=>simp
 |cons x l ih=>rw[vd,mm,ih,hk,oL,gI];omega
theorem BR {α:Type}[Inhabited α]{enc:α→List Value}{k:Nat}(hk:∀x,(enc x).length=k)(d:Array α):(flatK enc k d).toList=d.toList.flatMap enc:=by
 apply vc;intro t;by_cases ht:t<d.size*k
 ·have k0:0<k:=by rcases DT k with h|h;·subst h;simp at ht
                  ·exact h
  have hi:t/k<d.size:=(xG k0).2 ht;have hm:t%k<k:=nr _ k0;have e:=E9 hk d.toList (t/k) (t%k) d[t/k] (by simp[hi]) hm;rw[show t/k*k+t%k=t by rw[xI];exact As t k] at e;rw[e];have h1:=get_flatK enc k d t ht;have hl:(enc d[t/k]).length=k:=hk _;rw[getElem!_pos _ t (by simpa using ht),getElem!_pos d _ hi,getElem!_pos _ (t%k) (by rw[hl];exact hm)] at h1;rw[qe,jz (by simpa using ht),h1,aX (by rw[hl];exact hm)]
 ·rw[jW (by simp;omega),jW (by rw[Fa hk];simp;omega)]
theorem aq1 {α:Type}[Inhabited α]{enc:α→Value}{w:World}{g n:Nat}{os:Array Obj}{cur:Array Value}{e:TypeId}{fr:Nat×Nat}(d:Array α)(hb:w.heap[g]?=some (.cells cur e fr)):
 (grow (putRow enc (Sort.ahead w n) g 0 d) os).heap[g]?=some (.cells (putCells enc 0 d cur) e fr):=by
 have hg:g<w.heap.size:=(ei.1 hb).1;rw[heap_grow_old _ _ (by simpa using hg)];simp[putRow,mapBlock,Sort.ahead,Pp,hb,onCells]
theorem RT {α:Type}[Inhabited α]{enc:α→Value}{w:World}{g n:Nat}{os:Array Obj}(d:Array α):w.grownBy (grow (putRow enc (Sort.ahead w n) g 0 d) os) (some g):=by
 refine⟨rfl,rfl,rfl,by simp,fun k hk ay=>?_⟩;rw[heap_grow_old _ _ (by simpa using hk)];have:g≠k:=fun e=>ay (by rw[e]);simp[putRow,mapBlock,Sort.ahead,Pp,this]
theorem ayO {α:Type}[Inhabited α]{enc:α→Value}(cur:Array Value)(d:Array α)(h:d.size≤cur.size):(putCells enc 0 d cur).toList.take d.size=d.toList.map enc:=by
 apply vc;intro j;by_cases hj:j<d.size
 ·rw[DO hj,qe];simp[putCells,hj,show j<cur.size by omega]
 ·rw[aaZ (by omega),jW (by simp;omega)]
theorem ah6 {α:Type}[Inhabited α]{enc:α→Value}{w:World}{base g cap n m k:Nat}{e:TypeId}{os:Array Obj}{cur:Array Value}{d:Array α}(hd:d.size=m*k)(aqK:base≤g)(hb:w.heap[g]?=some (.cells cur e (0,0)))
 (h1:m≤cap) (h2:cap≤maxLen) (h3:cur.size=cap*k):
 (grow (putRow enc (Sort.ahead w n) g 0 d) os).ownsRow base e k (.slice (some ⟨g,0,none⟩) m cap) m (d.toList.map enc):=
 ⟨by simp[hd],.inr ⟨g,cap,_,rfl,aqK,aq1 d hb,h1,h2,by simp[putCells,h3],by rw[←hd];exact ayO cur d (by rw[hd,h3];exact ff _ h1)⟩⟩
end Rm
namespace Rm
open Go Go.Proofs Cx Go.RowKit
abbrev tI:Ty:=.int .i64
abbrev tE:Ty:=.agg [tI,tI,tI,tI,tI,tI,.bool]
def bU (d:D):List Value:=[.int .i64 (d.c 0).i,.int .i64 (d.c 1).i,.int .i64 (d.c 2).i,.int .i64 (d.c 3).i,.int .i64 (d.c 4).i,.int .i64 (d.c 5).i,.bool (d.c 6).b]
theorem nN (d:D):(bU d).length=7:=rfl
def Ak (n:Int):Prop:=IntKind.i64.min≤n∧n≤IntKind.i64.max
def va (d:D):Prop:=∃(a b c e f g:Int) (h:Bool),d=.agg [.int a,.int b,.int c,.int e,.int f,.int g,.bool h]∧Ak a∧Ak b∧Ak c∧Ak e∧Ak f∧Ak g
theorem va.of_rep {cap:Nat→Option CSig}{σ:Im}{v:Value}{d:D}(h:Rep cap σ tE v d):va d∧v=.agg (bU d).toArray:=by
 obtain⟨vs,ds,rfl,rfl,h1,h2,h3,_⟩:=h.agg_inv
 match vs,ds,h1,h2 with
 |[x0,x1,x2,x3,x4,x5,x6],[a0,a1,a2,a3,a4,a5,a6],_,_=>
  obtain⟨n0,e0,f0,g0⟩:=(h3 0 _ rfl).int_inv;obtain⟨n1,e1,f1,g1⟩:=(h3 1 _ rfl).int_inv;obtain⟨n2,e2,f2,g2⟩:=(h3 2 _ rfl).int_inv;obtain⟨n3,e3,f3,g3⟩:=(h3 3 _ rfl).int_inv;obtain⟨n4,e4,f4,g4⟩:=(h3 4 _ rfl).int_inv;obtain⟨n5,e5,f5,g5⟩:=(h3 5 _ rfl).int_inv;obtain⟨b,e6,f6⟩:=(h3 6 _ rfl).bool_inv;simp only[oI,xx] at e0 f0 e1 f1 e2 f2 e3 f3 e4 f4 e5 f5 e6 f6;subst e0 f0 e1 f1 e2 f2 e3 f3 e4 f4 e5 f5 e6 f6;exact⟨⟨n0,n1,n2,n3,n4,n5,b,rfl,g0,g1,g2,g3,g4,g5⟩,rfl⟩
theorem va.rep {cap:Nat→Option CSig}{σ:Im}{d:D}(h:va d):Rep cap σ tE (.agg (bU d).toArray) d:=by
 obtain⟨a,b,c,e,f,g,h,rfl,h1,h2,h3,h4,h5,h6⟩:=h;refine .agg [tI,tI,tI,tI,tI,tI,.bool] [.int .i64 a,.int .i64 b,.int .i64 c,.int .i64 e,.int .i64 f,.int .i64 g,.bool h] _ rfl rfl (fun i t hi=>?_) (fun i t hi=>?_)
 ·match i,hi with
  |0,hi=>cases hi;exact .int _ _ h1.1 h1.2
  |1,hi=>cases hi;exact .int _ _ h2.1 h2.2
  |2,hi=>cases hi;exact .int _ _ h3.1 h3.2
  |3,hi=>cases hi;exact .int _ _ h4.1 h4.2
  |4,hi=>cases hi;exact .int _ _ h5.1 h5.2
  |5,hi=>cases hi;exact .int _ _ h6.1 h6.2
  |6,hi=>cases hi;exact .bool _
 ·match i,hi with
  |0,hi=>cases hi;rfl
  |1,hi=>cases hi;rfl
  |2,hi=>cases hi;rfl
  |3,hi=>cases hi;rfl
  |4,hi=>cases hi;rfl
  |5,hi=>cases hi;rfl
  |6,hi=>cases hi;rfl
theorem acu {cap:Nat→Option CSig}{σ:Im}{cells:List Value}{xs:List D}(hl:cells.length=xs.length*7)(h:dy cap σ tE cells xs):cells=xs.flatMap bU∧∀x,x∈xs→va x:=by
 obtain⟨vs,bO,Sd⟩:=h;have hE:∀i (hi:i<xs.length),va xs[i]∧vs i=.agg (bU xs[i]).toArray:=fun i hi=>va.of_rep (bO i _ (aX hi));constructor
 ·apply vc;intro t;by_cases ht:t<xs.length*7
  ·have hi:t/7<xs.length:=by omega
   have hm:t%7<7:=by omega
   have e1:=E9 nN xs (t/7) (t%7) _ (aX hi) hm;have e2:t/7*7+t%7=t:=by omega
   rw[e2] at e1;have hu:=aX (show t%7<(bU xs[t/7]).length from hm);have:=Sd (t/7) (t%7) _ hi (by rw[(hE _ hi).2];show(bU xs[t/7]).toArray[t%7]?=_;rw[xy];exact hu);have e3:t/7*tE.size+t%7=t:=by show t/7*7+t%7=t;exact e2
   rw[e3] at this;rw[this,e1,hu]
  ·rw[jW (by omega),jW (by rw[Fa nN];omega)]
 ·intro x hx;obtain⟨i,hi,rfl⟩:=fX hx;exact(hE i hi).1
theorem acv {cap:Nat→Option CSig}{σ:Im}{xs:List D}(h:∀x,x∈xs→va x):dy cap σ tE (xs.flatMap bU) xs:=by
 refine⟨fun i=>.agg (bU (xs.getD i .none)).toArray,fun i x hx=>?_,fun i j u hi hj=>?_⟩
 ·have e:xs.getD i .none=x:=by rw[aI,hx];rfl
  show Rep cap σ tE (.agg (bU (xs.getD i .none)).toArray) x;rw[e];exact(h x (ko hx)).rep
 ·have hx:=aX hi;have e:xs.getD i .none=xs[i]:=by rw[aI,hx];rfl
  have hj:(bU (xs.getD i .none)).toArray[j]?=some u:=hj;rw[e,xy] at hj;have bK:(bU xs[i])[j]?=some u:=hj;have hj7:j<7:=by have:=(fe.1 bK).1;simpa [bU] using this
  show(xs.flatMap bU)[i*7+j]?=some u;rw[E9 nN xs i j _ hx hj7];exact bK
theorem aoh (xs:List D):∀v∈xs.flatMap bU,v.oneCell'=true:=by
 intro v hv;obtain⟨x,_,hx⟩:=xA.1 hv;simp[bU] at hx;rcases hx with rfl|rfl|rfl|rfl|rfl|rfl|rfl<;>rfl
theorem W7 {C:Ctx}{g N m cap k n:Nat}{T:TypeId}{e:Ty}{rest:List Sh}{ds:List D}{σ:Im}{own:Nat→Option Nat}{hv:Nat→Value}{w:World}{args:Array Value}{cx:Nat→Prop}{α:Type}[Inhabited α]{enc:α→Value}{F:Array α}{os:Array Obj}{cur:Array Value}{ys:List D}
 (hk:e.size=k) (ax:σ.ok w) (bx:∀k,σ.m k≠some cI) (bC:∀k j,own k=some j→N≤k∧k<w.heap.size∧(∀o,σ.c k o=none)∧σ.m k=none)
 (gP:∀k,cx k→k<w.heap.size∧own k=none∧(∀o,σ.c k o=none)∧σ.m k=none)
 (e1:hv 0=.slice (some ⟨g,0,none⟩) m cap) (e2:N≤g) (e3:w.heap[g]?=some (.cells cur T (0,0))) (e4:m≤cap) (e5:cap≤maxLen) (e6:cur.size=cap*k) (nW:own g=some 0) (od:ys.length=m) (hF:F.size=m*k)
 (du:dy C.cap σ e (F.toList.map enc) ys) (ha0:args.getD 0 undef=hv 0) (sM:rest.all y4=true):
 ∃v σ' own' hv' dr mS,Ending.returned (.tuple #[])=Ending.returned v∧D.tup [.tup [],.list ys]=.tup (dr::mS)∧mS.length=1∧σ.le σ'∧σ'.ok (Go.Sort.grow (Go.Sort.putRow enc (Go.Sort.ahead w n) g 0 F) os)∧Below 0 w (Go.Sort.grow (Go.Sort.putRow enc (Go.Sort.ahead w n) g 0 F) os)∧
  (∀k,k<w.heap.size→own k=none→(Go.Sort.grow (Go.Sort.putRow enc (Go.Sort.ahead w n) g 0 F) os).heap[k]?=w.heap[k]?)∧
  (∀k o x,σ'.c k o=some x→(σ.c k o=some x∨N≤k)∧¬cx k)∧(∀k x,σ'.m k=some x→(σ.m k=some x∨N≤k)∧¬cx k)∧(∀k,σ'.m k=some cI→N≤k→k<w.heap.size→own k≠none)∧
  (∀k j,own' k=some j→N≤k∧k<(Go.Sort.grow (Go.Sort.putRow enc (Go.Sort.ahead w n) g 0 F) os).heap.size∧(∀o,σ'.c k o=none)∧σ'.m k=none∧(k<w.heap.size→own k≠none))∧
  (∀(t:Nat) (sh:Sh),(Sh.obj 0 0::rest)[t]?=some sh→y4 sh=false→aJ C (kg (.obj 0 0::rest) [(0,.row T e)]) (sY [(0,.row T e)] ds mS) σ' hv' sh (args.getD t undef) (ds.getD t .none))∧
  (∀j,cA C (kg (.obj 0 0::rest) [(0,.row T e)]) (sY [(0,.row T e)] ds mS) σ' own' hv' (Go.Sort.grow (Go.Sort.putRow enc (Go.Sort.ahead w n) g 0 F) os) N j (kc [(0,.row T e)] j))∧Rep C.cap σ' (.tup []) v dr:=by
 obtain⟨_,_,hgc,uB⟩:=bC g 0 nW;have fD:=RT (enc:=enc) (w:=w) (g:=g) (n:=n) (os:=os) F;have Cn:=ah6 (enc:=enc) (w:=w) (base:=N) (n:=n) (os:=os) (m:=m) (k:=k) hF e2 e3 e4 e5 e6;generalize Go.Sort.grow (Go.Sort.putRow enc (Go.Sort.ahead w n) g 0 F) os=w' at*;have jt:∀k,k<w.heap.size→k≠g→w'.heap[k]?=w.heap[k]?:=fun k hk ay=>fD.block k hk (fun e=>ay (by cases e;rfl));have adA:∀k o x,σ.c k o=some x→k≠g:=fun k o x hx e=>by subst e;rw[hgc o] at hx;cases hx
 have arZ:∀k x,σ.m k=some x→k≠g:=fun k x hx e=>by subst e;rw[uB] at hx;cases hx
 refine⟨.tuple #[],σ,fun k=>if own k=some 0 then some 0 else none,hv,.tup [],[.list ys],rfl,rfl,rfl,.refl σ,
  ⟨fun k o x hx=>by rw[World.cell?_of_block (jt k (World.block_lt_of_cell? w (a:=⟨k,o,none⟩) (ax.c k o x hx)) (adA k o x hx))];exact ax.c k o x hx,fun k x hx=>(ax.m k x hx).keep (jt k (ax.m k x hx).lt (arZ k x hx)),ax.fz fun k o x hx=>jt k (World.block_lt_of_cell? w (a:=⟨k,o,none⟩) (ax.c k o x hx)) (adA k o x hx)⟩,
  ⟨fD.os,fD.tape,fD.output,fD.size,fun k hk=>by omega⟩,fun k hk hn=>jt k hk (fun e=>by subst e;rw[nW] at hn;cases hn),
  fun k o x hx=>⟨.inl hx,fun hc=>by rw[(gP k hc).2.2.1 o] at hx;cases hx⟩,fun k x hx=>⟨.inl hx,fun hc=>by rw[(gP k hc).2.2.2] at hx;cases hx⟩,fun k hx=>absurd hx (bx k),fun k j hk=>?_,fun t sh hs hd=>?_,fun j=>?_,
  .tup [] [] [] rfl rfl (fun i t hi=>by simp at hi)⟩
 ·by_cases ho:own k=some 0
  ·obtain⟨g1,g2,g3,g4⟩:=bC k 0 ho;exact⟨g1,lR g2 fD.size,g3,g4,fun _ hn=>by rw[ho] at hn;cases hn⟩
  ·simp[ho] at hk
 ·match t,hs with
  |0,hs=>
   simp at hs;subst hs;exact⟨bn _,fun _=>ha0⟩
  |t+1,hs=>
   have:=da.1 sM sh (ko (by simpa using hs));rw[hd] at this;cases this
 ·show cA C _ _ σ _ hv _ N j (bif Nat.beq 0 j then .row T e else .dead);cases hb:Nat.beq 0 j
  ·trivial
  ·have hj:=aD hb;subst hj;refine⟨F.toList.map enc,ys,rfl,?_,du,fun k hk=>?_⟩
   ·rw[e1,hk,od];exact Cn
   ·rw[e1] at hk;simp[Value.ownBlock] at hk;subst hk;simp[nW]
theorem S6 {w:World}{g:Nat}{cur:Array Value}{T:TypeId}{F:Array Value}(hb:w.heap[g]?=some (.cells cur T (0,0)))(ht:cur.toList.take F.size=F.toList):Go.Sort.Holds id w g 0 F:=by
 intro j hj;refine⟨?_,by simp[World.frozen?,hb]⟩;have h1:(cur.toList.take F.size)[j]?=F.toList[j]?:=by rw[ht]
 rw[DO hj] at h1;simp only[World.cell?,hb,je];simp only[Option.isSome_none,Ae,if_false];rw[←qe,h1];simp[hj]
theorem ajY {key:D→Int}{xs:List D}{n:Nat}(h:xs.length=n+1):gE key xs=(oC key xs n).toList.map fun i:Fin (n+1)=>xs.getD i .none:=by
 unfold gE;split
 ·omega
 ·rename_i m hm;obtain rfl:m=n:=by omega
  rfl
theorem Re {cap:Nat→Option CSig}{σ:Im}{t:Ty}{v:Value}{f:Nat}{ds:List D}(h:Rep cap σ t v (.clo f ds)):∃(vs:List Value) (cs:CSig),v=.func (.func f) #[] vs.toArray∧cap f=some cs∧vs.length=cs.caps.length∧ds.length=cs.caps.length∧∀(i:Nat) (t:Ty),cs.caps[i]?=some t→Rep cap σ t (vs.getD i undef) (ds.getD i .none):=by
 cases h with
 |fn f cs vs ds h1 h2 h3 h4=>exact⟨vs,cs,rfl,h1,h2,h3,h4⟩
end Rm
namespace Go.Proofs
open Go.Shelf
def Tryz.lays189_ren:Go.Shelf.Ren:=⟨fun|189=>76|125=>72|257=>123|128=>120|129=>121|294=>164|295=>165|296=>166|297=>167|298=>168|299=>169|216=>170|300=>171|301=>172|328=>190|329=>152|330=>153|331=>191|332=>192|215=>143|343=>209|n=>n,fun|28=>60|3=>3|46=>147|0=>0|51=>192|53=>101|4=>4|183=>185|182=>184|131=>189|5=>5|9=>9|218=>220|222=>224|228=>250|229=>154|n=>n,fun|n=>n⟩
theorem Tryz.lays189:Go.Proofs.Lays.n189 Tryz.prog Tryz.lays189_ren:={
 mixed:=by kernel_rfl
 f125:=Tryz.func72.trans (congrArg some (by kernel_rfl))
 f128:=Tryz.func120.trans (congrArg some (by kernel_rfl))
 f129:=Tryz.func121.trans (congrArg some (by kernel_rfl))
 f189:=Tryz.func76.trans (congrArg some (by kernel_rfl))
 f215:=Tryz.func143.trans (congrArg some (by kernel_rfl))
 f216:=Tryz.func170.trans (congrArg some (by kernel_rfl))
 f257:=Tryz.func123.trans (congrArg some (by kernel_rfl))
 f294:=Tryz.func164.trans (congrArg some (by kernel_rfl))
 f295:=Tryz.func165.trans (congrArg some (by kernel_rfl))
 f296:=Tryz.func166.trans (congrArg some (by kernel_rfl))
 f297:=Tryz.func167.trans (congrArg some (by kernel_rfl))
 f298:=Tryz.func168.trans (congrArg some (by kernel_rfl))
 f299:=Tryz.func169.trans (congrArg some (by kernel_rfl))
 f300:=Tryz.func171.trans (congrArg some (by kernel_rfl))
 f301:=Tryz.func172.trans (congrArg some (by kernel_rfl))
 f328:=Tryz.func190.trans (congrArg some (by kernel_rfl))
 f329:=Tryz.func152.trans (congrArg some (by kernel_rfl))
 f330:=Tryz.func153.trans (congrArg some (by kernel_rfl))
 f331:=Tryz.func191.trans (congrArg some (by kernel_rfl))
 f332:=Tryz.func192.trans (congrArg some (by kernel_rfl))
 f343:=Tryz.func209.trans (congrArg some (by kernel_rfl))
 t0:=Tryz.underlying0
 a0:=Tryz.isAgg0
 z0:=Tryz.sizeOf0
 v0:=Tryz.zeroValue0
 t3:=Tryz.underlying3
 a3:=Tryz.isAgg3
 z3:=Tryz.sizeOf3
 v3:=Tryz.zeroValue3
 t4:=Tryz.underlying4
 a4:=Tryz.isAgg4
 z4:=Tryz.sizeOf4
 v4:=Tryz.zeroValue4
 t5:=Tryz.underlying5
 a5:=Tryz.isAgg5
 z5:=Tryz.sizeOf5
 v5:=Tryz.zeroValue5
 t9:=Tryz.underlying9
 a9:=Tryz.isAgg9
 z9:=Tryz.sizeOf9
 v9:=Tryz.zeroValue9
 t28:=Tryz.underlying60
 a28:=Tryz.isAgg60
 z28:=Tryz.sizeOf60
 v28:=Tryz.zeroValue60
 t46:=Tryz.underlying147
 a46:=Tryz.isAgg147
 z46:=Tryz.sizeOf147
 v46:=Tryz.zeroValue147
 t51:=Tryz.underlying192
 a51:=Tryz.isAgg192
 z51:=Tryz.sizeOf192
 v51:=Tryz.zeroValue192
 t53:=Tryz.underlying101
 a53:=Tryz.isAgg101
 z53:=Tryz.sizeOf101
 v53:=Tryz.zeroValue101
 t131:=Tryz.underlying189
 a131:=Tryz.isAgg189
 z131:=Tryz.sizeOf189
 v131:=Tryz.zeroValue189
 t182:=Tryz.underlying184
 a182:=Tryz.isAgg184
 z182:=Tryz.sizeOf184
 v182:=Tryz.zeroValue184
 t183:=Tryz.underlying185
 a183:=Tryz.isAgg185
 z183:=Tryz.sizeOf185
 v183:=Tryz.zeroValue185
 t218:=Tryz.underlying220
 a218:=Tryz.isAgg220
 z218:=Tryz.sizeOf220
 v218:=Tryz.zeroValue220
 t222:=Tryz.underlying224
 a222:=Tryz.isAgg224
 z222:=Tryz.sizeOf224
 v222:=Tryz.zeroValue224
 t228:=Tryz.underlying250
 a228:=Tryz.isAgg250
 z228:=Tryz.sizeOf250
 v228:=Tryz.zeroValue250
 t229:=Tryz.underlying154
 a229:=Tryz.isAgg154
 z229:=Tryz.sizeOf154
 v229:=Tryz.zeroValue154}
open Go.Sort Go.RowKit in
theorem Tryz.slices_Sort_int (iK off cap:Nat)(zs:List Int)(w:World)(hH:Holds (Value.int .i64) w iK off zs.toArray)(hblk:iK<w.heap.size)(aP:zs.length<4611686018427387904):
 Calls Tryz.prog 76 #[.slice (some ⟨iK,off,none⟩) zs.length cap] w fun e w'=>
  e=.returned (.tuple #[])∧∃n os,w'=grow (putRow (Value.int .i64) (Sort.ahead w n) iK off (zs.mergeSort fun x y=>decide (x≤y)).toArray) os:=Any.slices_Sort_int Tryz.lays189 iK off cap zs w hH hblk aP
def Tryz.laysNm215_ren:Go.Shelf.Ren:=⟨fun|15=>73|n=>n,fun|22=>60|3=>3|4=>4|n=>n,fun|n=>n⟩
theorem Tryz.laysNm215:Go.Proofs.Lays2.n15 Tryz.prog Tryz.laysNm215_ren:={
 mixed:=by kernel_rfl
 f15:=Tryz.func73.trans (congrArg some (by kernel_rfl))
 t3:=Tryz.underlying3
 a3:=Tryz.isAgg3
 z3:=Tryz.sizeOf3
 v3:=Tryz.zeroValue3
 t4:=Tryz.underlying4
 a4:=Tryz.isAgg4
 z4:=Tryz.sizeOf4
 v4:=Tryz.zeroValue4
 t22:=Tryz.underlying60
 a22:=Tryz.isAgg60
 z22:=Tryz.sizeOf60
 v22:=Tryz.zeroValue60
 i3:=by kernel_rfl}
open Go.RowKit Go.Lib in
theorem Tryz.slices_Clone_int_nil (n c:Nat)(w:World):
 Calls Tryz.prog 73 #[.slice none n c] w fun e w'=>e=.returned (.slice none 0 0)∧w'=w:=Any.slices_Clone_int_nil Tryz.laysNm215 n c w
open Go.RowKit Go.Lib in
theorem Tryz.slices_Clone_int_zero (a:Addr)(c:Nat)(w:World):
 Calls Tryz.prog 73 #[.slice (some a) 0 c] w fun e w'=>∃v',e=.returned v'∧w'.ownsRow w.heap.size 3 1 v' 0 []∧v'≠.slice none 0 0∧Below w.heap.size w w':=Any.slices_Clone_int_zero Tryz.laysNm215 a c w
open Go.RowKit Go.Lib in
theorem Tryz.slices_Clone_int (b off n c:Nat)(zs:List Int)(w:World)(hz:n≤zs.length)(adu:n*8≤140737488355328)(hc:∀j,j<zs.length→w.cell? ⟨b,off+j,none⟩=some (.int .i64 (zs.getD j 0))):
 Calls Tryz.prog 73 #[.slice (some ⟨b,off,none⟩) n c] w fun e w'=>∃v',e=.returned v'∧w'.ownsRow w.heap.size 3 1 v' n ((zs.take n).map (Value.int .i64))∧v'≠.slice none 0 0∧Below w.heap.size w w':=Any.slices_Clone_int Tryz.laysNm215 b off n c zs w hz adu hc
def Tryz.laysNm220_ren:Go.Shelf.Ren:=⟨fun|20=>77|n=>n,fun|22=>60|3=>3|4=>4|0=>0|n=>n,fun|n=>n⟩
theorem Tryz.laysNm220:Go.Proofs.Lays2.n20 Tryz.prog Tryz.laysNm220_ren:={
 mixed:=by kernel_rfl
 f20:=Tryz.func77.trans (congrArg some (by kernel_rfl))
 t0:=Tryz.underlying0
 a0:=Tryz.isAgg0
 z0:=Tryz.sizeOf0
 v0:=Tryz.zeroValue0
 t3:=Tryz.underlying3
 a3:=Tryz.isAgg3
 z3:=Tryz.sizeOf3
 v3:=Tryz.zeroValue3
 t4:=Tryz.underlying4
 a4:=Tryz.isAgg4
 z4:=Tryz.sizeOf4
 v4:=Tryz.zeroValue4
 t22:=Tryz.underlying60
 a22:=Tryz.isAgg60
 z22:=Tryz.sizeOf60
 v22:=Tryz.zeroValue60
 i3:=by kernel_rfl}
open Go.RowKit Go.Lib Go.Sort in
theorem Tryz.slices_Compact_int_empty (a:Option Addr)(cap:Nat)(w:World):
 Calls Tryz.prog 77 #[.slice a 0 cap] w fun e w'=>e=.returned (.slice a 0 cap)∧w'=w:=Any.slices_Compact_int_empty Tryz.laysNm220 a cap w
open Go.RowKit Go.Sort in
theorem Tryz.slices_Sort_int_none (p:Option Addr)(cap:Nat)(w:World):
 Calls Tryz.prog 76 #[.slice p 0 cap] w fun e w'=>e=.returned (.tuple #[])∧w'=w:=Any.slices_Sort_int_none Tryz.lays189 p cap w
open Go.RowKit Go.Lib Go.Sort in
theorem Tryz.slices_Compact_int (iK off cap:Nat)(zs:List Int)(w:World)(hH:Holds (Value.int .i64) w iK off zs.toArray)(aP:zs.length≤9223372036854775807)(eR:zs.length≤cap):
 Calls Tryz.prog 77 #[.slice (some ⟨iK,off,none⟩) zs.length cap] w fun e w'=>e=.returned (.slice (some ⟨iK,off,none⟩) (Lib.compact zs).length cap)∧∃q,w'=putRow (Value.int .i64) (Sort.ahead w q) iK off (Lib.compact zs++List.replicate (zs.length-(Lib.compact zs).length) 0).toArray:=Any.slices_Compact_int Tryz.laysNm220 iK off cap zs w hH aP eR
def Tryz.laysSlF6_f61_ren:Go.Shelf.Ren:=⟨fun|6=>74|15=>72|14=>122|28=>120|29=>121|20=>156|21=>157|22=>158|23=>159|24=>160|25=>161|26=>162|27=>163|46=>187|47=>152|48=>153|49=>188|50=>189|57=>208|n=>n,fun|22=>60|24=>3|25=>150|3=>3|39=>147|0=>0|53=>192|55=>101|4=>4|46=>185|45=>184|50=>189|5=>5|9=>9|66=>220|70=>224|76=>250|77=>154|n=>n,fun|n=>n⟩
theorem Tryz.laysSlF6_f61:Go.Proofs.SlLaysF.n6 Tryz.prog Tryz.laysSlF6_f61_ren:={
 mixed:=by kernel_rfl
 f6:=⟨Tryz.f74.name,by decide,Tryz.func74.trans (congrArg some (by kernel_rfl))⟩
 f14:=⟨Tryz.f122.name,by decide,Tryz.func122.trans (congrArg some (by kernel_rfl))⟩
 f15:=Tryz.func72.trans (congrArg some (by kernel_rfl))
 f20:=⟨Tryz.f156.name,by decide,Tryz.func156.trans (congrArg some (by kernel_rfl))⟩
 f21:=⟨Tryz.f157.name,by decide,Tryz.func157.trans (congrArg some (by kernel_rfl))⟩
 f22:=⟨Tryz.f158.name,by decide,Tryz.func158.trans (congrArg some (by kernel_rfl))⟩
 f23:=⟨Tryz.f159.name,by decide,Tryz.func159.trans (congrArg some (by kernel_rfl))⟩
 f24:=⟨Tryz.f160.name,by decide,Tryz.func160.trans (congrArg some (by kernel_rfl))⟩
 f25:=⟨Tryz.f161.name,by decide,Tryz.func161.trans (congrArg some (by kernel_rfl))⟩
 f26:=⟨Tryz.f162.name,by decide,Tryz.func162.trans (congrArg some (by kernel_rfl))⟩
 f27:=⟨Tryz.f163.name,by decide,Tryz.func163.trans (congrArg some (by kernel_rfl))⟩
 f28:=Tryz.func120.trans (congrArg some (by kernel_rfl))
 f29:=Tryz.func121.trans (congrArg some (by kernel_rfl))
 f46:=⟨Tryz.f187.name,by decide,Tryz.func187.trans (congrArg some (by kernel_rfl))⟩
 f47:=Tryz.func152.trans (congrArg some (by kernel_rfl))
 f48:=Tryz.func153.trans (congrArg some (by kernel_rfl))
 f49:=⟨Tryz.f188.name,by decide,Tryz.func188.trans (congrArg some (by kernel_rfl))⟩
 f50:=⟨Tryz.f189.name,by decide,Tryz.func189.trans (congrArg some (by kernel_rfl))⟩
 f57:=⟨Tryz.f208.name,by decide,Tryz.func208.trans (congrArg some (by kernel_rfl))⟩
 t0:=Tryz.underlying0
 a0:=Tryz.isAgg0
 z0:=Tryz.sizeOf0
 v0:=Tryz.zeroValue0
 t3:=Tryz.underlying3
 a3:=Tryz.isAgg3
 z3:=Tryz.sizeOf3
 v3:=Tryz.zeroValue3
 t4:=Tryz.underlying4
 a4:=Tryz.isAgg4
 z4:=Tryz.sizeOf4
 v4:=Tryz.zeroValue4
 t5:=Tryz.underlying5
 a5:=Tryz.isAgg5
 z5:=Tryz.sizeOf5
 v5:=Tryz.zeroValue5
 t9:=Tryz.underlying9
 a9:=Tryz.isAgg9
 z9:=Tryz.sizeOf9
 v9:=Tryz.zeroValue9
 t22:=Tryz.underlying60
 a22:=Tryz.isAgg60
 z22:=Tryz.sizeOf60
 v22:=Tryz.zeroValue60
 a24:=Tryz.isAgg3
 z24:=Tryz.sizeOf3
 t25:=Tryz.underlying150
 a25:=Tryz.isAgg150
 z25:=Tryz.sizeOf150
 v25:=Tryz.zeroValue150
 t39:=Tryz.underlying147
 a39:=Tryz.isAgg147
 z39:=Tryz.sizeOf147
 v39:=Tryz.zeroValue147
 t45:=Tryz.underlying184
 a45:=Tryz.isAgg184
 z45:=Tryz.sizeOf184
 v45:=Tryz.zeroValue184
 t46:=Tryz.underlying185
 a46:=Tryz.isAgg185
 z46:=Tryz.sizeOf185
 v46:=Tryz.zeroValue185
 t50:=Tryz.underlying189
 a50:=Tryz.isAgg189
 z50:=Tryz.sizeOf189
 v50:=Tryz.zeroValue189
 t53:=Tryz.underlying192
 a53:=Tryz.isAgg192
 z53:=Tryz.sizeOf192
 v53:=Tryz.zeroValue192
 t55:=Tryz.underlying101
 a55:=Tryz.isAgg101
 z55:=Tryz.sizeOf101
 v55:=Tryz.zeroValue101
 t66:=Tryz.underlying220
 a66:=Tryz.isAgg220
 z66:=Tryz.sizeOf220
 v66:=Tryz.zeroValue220
 t70:=Tryz.underlying224
 a70:=Tryz.isAgg224
 z70:=Tryz.sizeOf224
 v70:=Tryz.zeroValue224
 t76:=Tryz.underlying250
 a76:=Tryz.isAgg250
 z76:=Tryz.sizeOf250
 v76:=Tryz.zeroValue250
 t77:=Tryz.underlying154
 a77:=Tryz.isAgg154
 z77:=Tryz.sizeOf154
 v77:=Tryz.zeroValue154}
def Tryz.sortE_ren:Go.Shelf.Ren:=⟨fun|6=>34|15=>72|14=>71|28=>120|29=>121|20=>112|21=>113|22=>114|23=>115|24=>116|25=>117|26=>118|27=>119|46=>151|47=>152|48=>153|49=>154|50=>155|57=>186|n=>n,fun|22=>55|24=>59|25=>94|3=>3|39=>147|0=>0|53=>192|55=>101|4=>4|46=>185|45=>184|50=>189|5=>5|9=>9|66=>220|70=>224|76=>250|77=>154|n=>n,fun|n=>n⟩
theorem Tryz.sortE:Go.Proofs.SlLaysF0.n6 Tryz.prog Tryz.sortE_ren:={
 mixed:=by kernel_rfl
 f6:=⟨Tryz.f34.name,by decide,Tryz.func34.trans (congrArg some (by kernel_rfl))⟩
 f14:=⟨Tryz.f71.name,by decide,Tryz.func71.trans (congrArg some (by kernel_rfl))⟩
 f15:=Tryz.func72.trans (congrArg some (by kernel_rfl))
 f20:=⟨Tryz.f112.name,by decide,Tryz.func112.trans (congrArg some (by kernel_rfl))⟩
 f21:=⟨Tryz.f113.name,by decide,Tryz.func113.trans (congrArg some (by kernel_rfl))⟩
 f22:=⟨Tryz.f114.name,by decide,Tryz.func114.trans (congrArg some (by kernel_rfl))⟩
 f23:=⟨Tryz.f115.name,by decide,Tryz.func115.trans (congrArg some (by kernel_rfl))⟩
 f24:=⟨Tryz.f116.name,by decide,Tryz.func116.trans (congrArg some (by kernel_rfl))⟩
 f25:=⟨Tryz.f117.name,by decide,Tryz.func117.trans (congrArg some (by kernel_rfl))⟩
 f26:=⟨Tryz.f118.name,by decide,Tryz.func118.trans (congrArg some (by kernel_rfl))⟩
 f27:=⟨Tryz.f119.name,by decide,Tryz.func119.trans (congrArg some (by kernel_rfl))⟩
 f28:=Tryz.func120.trans (congrArg some (by kernel_rfl))
 f29:=Tryz.func121.trans (congrArg some (by kernel_rfl))
 f46:=⟨Tryz.f151.name,by decide,Tryz.func151.trans (congrArg some (by kernel_rfl))⟩
 f47:=Tryz.func152.trans (congrArg some (by kernel_rfl))
 f48:=Tryz.func153.trans (congrArg some (by kernel_rfl))
 f49:=⟨Tryz.f154.name,by decide,Tryz.func154.trans (congrArg some (by kernel_rfl))⟩
 f50:=⟨Tryz.f155.name,by decide,Tryz.func155.trans (congrArg some (by kernel_rfl))⟩
 f57:=⟨Tryz.f186.name,by decide,Tryz.func186.trans (congrArg some (by kernel_rfl))⟩
 t0:=Tryz.underlying0
 a0:=Tryz.isAgg0
 z0:=Tryz.sizeOf0
 v0:=Tryz.zeroValue0
 t3:=Tryz.underlying3
 a3:=Tryz.isAgg3
 z3:=Tryz.sizeOf3
 v3:=Tryz.zeroValue3
 t4:=Tryz.underlying4
 a4:=Tryz.isAgg4
 z4:=Tryz.sizeOf4
 v4:=Tryz.zeroValue4
 t5:=Tryz.underlying5
 a5:=Tryz.isAgg5
 z5:=Tryz.sizeOf5
 v5:=Tryz.zeroValue5
 t9:=Tryz.underlying9
 a9:=Tryz.isAgg9
 z9:=Tryz.sizeOf9
 v9:=Tryz.zeroValue9
 t22:=Tryz.underlying55
 a22:=Tryz.isAgg55
 z22:=Tryz.sizeOf55
 v22:=Tryz.zeroValue55
 t25:=Tryz.underlying94
 a25:=Tryz.isAgg94
 z25:=Tryz.sizeOf94
 v25:=Tryz.zeroValue94
 t39:=Tryz.underlying147
 a39:=Tryz.isAgg147
 z39:=Tryz.sizeOf147
 v39:=Tryz.zeroValue147
 t45:=Tryz.underlying184
 a45:=Tryz.isAgg184
 z45:=Tryz.sizeOf184
 v45:=Tryz.zeroValue184
 t46:=Tryz.underlying185
 a46:=Tryz.isAgg185
 z46:=Tryz.sizeOf185
 v46:=Tryz.zeroValue185
 t50:=Tryz.underlying189
 a50:=Tryz.isAgg189
 z50:=Tryz.sizeOf189
 v50:=Tryz.zeroValue189
 t53:=Tryz.underlying192
 a53:=Tryz.isAgg192
 z53:=Tryz.sizeOf192
 v53:=Tryz.zeroValue192
 t55:=Tryz.underlying101
 a55:=Tryz.isAgg101
 z55:=Tryz.sizeOf101
 v55:=Tryz.zeroValue101
 t66:=Tryz.underlying220
 a66:=Tryz.isAgg220
 z66:=Tryz.sizeOf220
 v66:=Tryz.zeroValue220
 t70:=Tryz.underlying224
 a70:=Tryz.isAgg224
 z70:=Tryz.sizeOf224
 v70:=Tryz.zeroValue224
 t76:=Tryz.underlying250
 a76:=Tryz.isAgg250
 z76:=Tryz.sizeOf250
 v76:=Tryz.zeroValue250
 t77:=Tryz.underlying154
 a77:=Tryz.isAgg154
 z77:=Tryz.sizeOf154
 v77:=Tryz.zeroValue154}
def Tryz.ixE_ren:Go.Shelf.Ren:=⟨fun|6=>111|n=>n,fun|22=>55|23=>59|25=>57|3=>3|0=>0|4=>4|n=>n,fun|n=>n⟩
theorem Tryz.ixE:Go.Proofs.SlLaysH0.n6 Tryz.prog Tryz.ixE_ren:={
 mixed:=by kernel_rfl
 f6:=⟨Tryz.f111.name,by decide,Tryz.func111.trans (congrArg some (by kernel_rfl))⟩
 t0:=Tryz.underlying0
 a0:=Tryz.isAgg0
 z0:=Tryz.sizeOf0
 v0:=Tryz.zeroValue0
 t3:=Tryz.underlying3
 a3:=Tryz.isAgg3
 z3:=Tryz.sizeOf3
 v3:=Tryz.zeroValue3
 t4:=Tryz.underlying4
 a4:=Tryz.isAgg4
 z4:=Tryz.sizeOf4
 v4:=Tryz.zeroValue4
 t22:=Tryz.underlying55
 a22:=Tryz.isAgg55
 z22:=Tryz.sizeOf55
 v22:=Tryz.zeroValue55
 t25:=Tryz.underlying57
 a25:=Tryz.isAgg57
 z25:=Tryz.sizeOf57
 v25:=Tryz.zeroValue57}
end Go.Proofs
namespace Rm
open Go Go.Proofs Cx Go.RowKit Go.Sort
def gF (d:D):Int:=(d.c 5).i
def CN (d:D):Bool:=decide (0≤gF d)&&decide (gF d≤1099511627776)
def OM (ds:List D):Option D:=
 match ds with
 |[_,.clo f [],.list xs]=>if f=35∧xs.length≤4294967296∧xs.all CN=true then some (.tup [.tup [],.list (gE gF xs)]) else none
 |_=>none
set_option maxHeartbeats 1000000 in
theorem aB3 (a0 a1 a2 a3 a4 a5 b0 b1 b2 b3 b4 b5:Int)(a6 b6:Bool)(hs:IntKind.i64.wrap (a5-b5)=a5-b5)(W:World):
 Calls Tryz.prog 35 #[.agg #[.int .i64 a0,.int .i64 a1,.int .i64 a2,.int .i64 a3,.int .i64 a4,.int .i64 a5,.bool a6],.agg #[.int .i64 b0,.int .i64 b1,.int .i64 b2,.int .i64 b3,.int .i64 b4,.int .i64 b5,.bool b6]] W fun e w'=>e=.returned (.int .i64 (a5-b5))∧∃q mS,w'=grow (W.drewN q) mS:=by
 go_enter Tryz.func35,Tryz.ntmps35
 go_wp2
 go_ret
 exact⟨rfl,0,_,by rw[alloc_eq_grow,alloc_eq_grow,grow_grow];rfl⟩
theorem amO {xs:List D}{n:Nat}(aO:xs.all CN=true)(hn:xs.length=n+1)(iK off size:Nat)(w:World):
 CmpLays Tryz.prog 35 #[] (fun i:Fin (n+1)=>bU (xs.getD i .none)) 7 (fun i j=>gF (xs.getD i .none)-gF (xs.getD j .none)) iK off size w:=by
 intro m os dk hs x y
 have hr:∀i:Fin (n+1),0≤gF (xs.getD i .none)∧gF (xs.getD i .none)≤1099511627776:=fun i=>by
  have hi:(i:Nat)<xs.length:=by rw[hn];exact i.2
  have:=da.1 aO _ (bW hi);rw[aI,aX hi];simpa [CN] using this
 have h1:=hr x;have h2:=hr y;exact aB3 _ _ _ _ _ _ _ _ _ _ _ _ _ _ (aN (by unfold gF at*;omega)) _
theorem ayt (ds:List D)(d:D)(h:OM ds=some d):eJ ctx 34 [.obj 0 0,.dat (.fn [tE,tE] tI)] [(0,.row 59 tE)] (.tup []) ds d:=by
 refine eJ.of (by simp) ?_;unfold OM at h;split at h
 case h_2=>cases h
 rename_i d0 f xs;split at h
 case isFalse=>cases h
 rename_i hc;obtain⟨rfl,hlen,aO⟩:=hc;cases h;intro N σ own hv w args cx FY ax hC bx hN aP bC gP h1 h2;obtain⟨v,u,rfl⟩:∃v u,args=#[v,u]:=by
  match args,aP with
  |⟨[v,u]⟩,_=>exact⟨v,u,rfl⟩
 have eT:v=hv 0:=(h1 0).2 rfl;have hu:Rep ctx.cap σ (.fn [tE,tE] tI) u (.clo 35 []):=h1 1;obtain rfl:u=.func (.func 35) #[] #[]:=by
  obtain⟨vs,cs,rfl,_,k1,k2,_⟩:=Re hu;have:vs=[]:=ve.1 (by rw[k1,←k2];rfl);rw[this]
 obtain⟨cells,fw,hx,de,du,iQ⟩:=h2 0;have hx:D.list xs=D.list fw:=hx;cases hx;obtain⟨aZ,hE⟩:=acu de.1 du;by_cases h0:xs=[]
 ·subst h0;obtain⟨p,cap,e1⟩:∃p cap,hv 0=.slice p 0 cap:=by
   rcases de.2 with⟨e,_⟩|⟨g,cap,cur,e,_⟩
   ·exact⟨_,_,e⟩
   ·exact⟨_,_,e⟩
  rw[eT,e1];refine(AnyF.slices_SortFunc_none Tryz.sortE p cap _ w).mono fun e w' hh=>?_;obtain⟨rfl,rfl⟩:=hh
  refine⟨.tuple #[],σ,own,hv,.tup [],[.list []],rfl,rfl,rfl,.refl σ,ax,.refl _ _,fun k hk _=>rfl,
   fun k o x hx=>⟨.inl hx,fun hc=>by rw[(gP k hc).2.2.1 o] at hx;cases hx⟩,fun k x hx=>⟨.inl hx,fun hc=>by rw[(gP k hc).2.2.2] at hx;cases hx⟩,fun k hx=>absurd hx (bx k),
   fun k j hk=>by obtain⟨g1,g2,g3,g4⟩:=bC k j hk;exact⟨g1,g2,g3,g4,fun _ hn=>by rw[hk] at hn;cases hn⟩,fun t sh hs hd=>?_,fun j=>?_,.tup [] [] [] rfl rfl (fun i t hi=>by simp at hi)⟩
  ·match t,hs with
   |0,hs=>simp at hs;subst hs;exact⟨bn _,fun _=>by simp[e1]⟩
   |1,hs=>simp at hs;subst hs;cases hd
   |t+2,hs=>simp at hs
  ·exact h2 j
 obtain⟨n,hn⟩:∃n,xs.length=n+1:=⟨xs.length-1,by have:=DP.2 h0;omega⟩
 rcases de.2 with⟨_,h0⟩|⟨g,cap,cur,e1,e2,e3,e4,e5,e6,e7⟩
 ·omega
 have hg:g<w.heap.size:=(ei.1 e3).1;have nW:own g=some 0:=iQ g (by rw[e1];rfl);have Sw:∀i:Fin (n+1),(bU (xs.getD i .none)).length=7:=fun _=>rfl
 have hH:HoldsK (fun i:Fin (n+1)=>bU (xs.getD i .none)) 7 w g 0 (Array.ofFn id):=by
  refine S6 e3 ?_;rw[BR Sw,size_flatK,aaG,show(n+1)*7=xs.length*tE.size by rw[hn];rfl,e7,aZ];have:=agf hn
  conv=>lhs;rw[←this]
  rw[List.flatMap_map]
 have dq:=AnyQ.slices_SortFunc_eq Tryz.sortE 7 Tryz.isAgg59 Tryz.sizeOf59 (fun i:Fin (n+1)=>bU (xs.getD i .none)) Sw
  (fun i v hv=>aoh [xs.getD i .none] v (by simpa using hv)) (fun i j=>gF (xs.getD i .none)-gF (xs.getD j .none)) (Xn gF xs (n+1)) 35 #[] g 0 cap (Array.ofFn id) w
  (enters_of Tryz.func35 (by kernel_rfl) rfl) (amO aO hn _ _ _ w) hH hg (by simp;omega)
 change Calls Tryz.prog 34 _ _ _ at dq;simp only[aaG] at dq;have mz:hv 0=.slice (some ⟨g,0,none⟩) (n+1) cap:=by rw[e1,hn]
 rw[eT,mz];refine dq.mono fun e w' hh=>?_;obtain⟨rfl,m,os,rfl⟩:=hh;have vR:=OO gF xs n;have od:(gE gF xs).length=xs.length:=(rK gF xs).length_eq;refine W7 (C:=ctx) (k:=7) (rest:=[.dat (.fn [tE,tE] tI)]) (enc:=id) (F:=flatK (fun i:Fin (n+1)=>bU (xs.getD i .none)) 7 (oC gF xs n)) rfl ax bx bC gP mz e2 e3 (by rw[←hn];exact e4) e5 e6 nW (by rw[od,hn]) (by rw[size_flatK,vR]) ?_ (by simp[mz]) rfl;rw[xz,BR Sw]
 have e:(oC gF xs n).toList.flatMap (fun i:Fin (n+1)=>bU (xs.getD i .none))=(gE gF xs).flatMap bU:=by
  rw[ajY hn,List.flatMap_map]
 rw[e];exact acv fun x hx=>hE x ((rK gF xs).mem_iff.1 hx)
end Rm
namespace Rm
open Go Cx
def y2 (x:Int):List Int→List Int
 |[]=>[x]
 |y::l=>if x≤y then x::y::l else y::y2 x l
def lu:List Int→List Int
 |[]=>[]
 |x::l=>y2 x (lu l)
theorem TM (x:Int):∀l,(y2 x l).Perm (x::l)
 |[]=>.refl _
 |y::l=>by
  unfold y2;split
  ·exact .refl _
  ·exact((TM x l).cons y).trans (.swap x y l)
theorem Gj:∀l,(lu l).Perm l
 |[]=>.refl _
 |x::l=>(TM x _).trans ((Gj l).cons x)
theorem aeX (x:Int):∀{l:List Int},l.Pairwise (·≤·)→(y2 x l).Pairwise (·≤·)
 |[],_=>by simp[y2]
 |y::l,h=>by
  have h':=xD.1 h;unfold y2;split
  ·rename_i vV;refine xD.2 ⟨fun z hz=>?_,h⟩;rcases cC.1 hz with rfl|hz
   ·exact vV
   ·exact Pw vV (h'.1 z hz)
  ·rename_i vV;refine xD.2 ⟨fun z hz=>?_,aeX x h'.2⟩;rcases cC.1 ((TM x l).mem_iff.1 hz) with rfl|hz
   ·omega
   ·exact h'.1 z hz
theorem Mj:∀l,(lu l).Pairwise (·≤·)
 |[]=>.nil
 |x::l=>aeX x (Mj l)
theorem atw (l:List Int):(l.mergeSort fun x y=>decide (x≤y))=lu l:=by
 have h1:(l.mergeSort fun x y=>decide (x≤y)).Pairwise (fun x y=>decide (x≤y)=true):=List.pairwise_mergeSort (fun a b c h1 h2=>by simp at*;omega) (fun a b=>by simp;omega) l;refine List.Perm.eq_of_pairwise (le:=(·≤·)) (fun a b _ _ h1 h2=>by omega) (h1.imp fun h=>by simpa using h) (Mj l) ((List.mergeSort_perm l _).trans (Gj l).symm)
theorem Mi (l:List Int):(lu l).length=l.length:=(Gj l).length_eq
theorem atx {l:List Int}{x:Int}:x∈lu l↔x∈l:=(Gj l).mem_iff
def qA (l:List Int)(k:Nat):List Int:=((List.range k).filter fun j=>decide (j=0∨l.getD j 0≠l.getD (j-1) 0)).map fun j=>l.getD j 0
def j0 (l:List Int):List Int:=qA l l.length
theorem ani (l:List Int)(k:Nat):qA l (k+1)=qA l k++if k=0∨l.getD k 0≠l.getD (k-1) 0 then[l.getD k 0] else[]:=by
 unfold qA;rw[PK,IX,np]
 congr 1
 have key:∀(p:Nat→Bool),List.filter p [k]=if p k then[k] else[]:=fun p=>by
  cases h:p k<;>simp[List.filter,h]
 rw[key];by_cases h:k=0∨l.getD k 0≠l.getD (k-1) 0
 ·rw[if_pos h,if_pos (decide_eq_true h)];rfl
 ·rw[if_neg h,if_neg (by simpa using h)];rfl
theorem Rl (l:List Int)(hs:l.Pairwise (·≤·)):∀k,k≤l.length→(∀x,x∈qA l k↔∃j,j<k∧l.getD j 0=x)∧(qA l k).Pairwise (·<·)
 |0,_=>by simp[qA]
 |k+1,hk=>by
  obtain⟨h1,h2⟩:=Rl l hs k (by omega)
  have hle:∀i j,i≤j→j<l.length→l.getD i 0≤l.getD j 0:=fun i j dH hj=>by
   have hi:i<l.length:=by omega
   rw[aI,aI,aX hi,aX hj];by_cases e:i=j
   ·subst e;exact Am _
   ·exact PG.1 hs i j hi hj (by omega)
  rw[ani];by_cases hc:k=0∨l.getD k 0≠l.getD (k-1) 0
  ·rw[if_pos hc];refine⟨fun x=>?_,aa4.2 ⟨h2,by simp,fun a ha b hb=>?_⟩⟩
   ·rw[dN,h1,xB];constructor
    ·rintro(⟨j,hj,e⟩|e)
     ·exact⟨j,by omega,e⟩
     ·exact⟨k,by omega,e.symm⟩
    ·rintro⟨j,hj,e⟩;by_cases mE:j=k
     ·subst mE;exact .inr e.symm
     ·exact .inl ⟨j,by omega,e⟩
   ·rw[xB] at hb;subst hb;obtain⟨j,hj,rfl⟩:=(h1 a).1 ha;have a1:=hle j (k-1) (by omega) (by omega);have a2:=hle (k-1) k (by omega) (by omega);rcases hc with hc|hc<;>omega
  ·rw[if_neg hc,tK];refine⟨fun x=>?_,h2⟩;rw[h1];constructor
   ·rintro⟨j,hj,e⟩;exact⟨j,by omega,e⟩
   ·rintro⟨j,hj,e⟩;by_cases mE:j=k
    ·subst mE;exact⟨j-1,by omega,by rw[←e];omega⟩
    ·exact⟨j,by omega,e⟩
theorem anj {l:List Int}(hs:l.Pairwise (·≤·)){x:Int}:x∈j0 l↔x∈l:=by
 rw[j0,(Rl l hs l.length (bn _)).1,List.mem_iff_getElem];constructor
 ·rintro⟨j,hj,e⟩;exact⟨j,hj,by rw[←e,aI,aX hj];rfl⟩
 ·rintro⟨j,hj,e⟩;exact⟨j,hj,by rw[←e,aI,aX hj];rfl⟩
theorem ank {l:List Int}(hs:l.Pairwise (·≤·)):(j0 l).Pairwise (·<·):=(Rl l hs l.length (bn _)).2
theorem acb (l:List Int)(k:Nat):(qA l k).length≤k:=by
 unfold qA;rw[dM];exact dO (oM _ _) (by simp)
end Rm
namespace Rm
open Go Go.Proofs Cx Go.RowKit
def aj0 (ds:List D):Option D:=
 match ds with
 |[_,.list xs]=>if 0<xs.length∧xs.length≤4294967296 then some (.tup [.tup [],ints (lu (xs.map D.i))]) else none
 |_=>none
def Is (ds:List D):Option D:=
 match ds with
 |[_,.list xs]=>if xs.length≤4294967296 then some (.tup [.tup [],ints (lu (xs.map D.i))]) else none
 |_=>none
theorem TN {cap:Nat→Option CSig}{σ:Im}{cells:List Value}{xs:List D}(hl:cells.length=xs.length*1)(h:dy cap σ (.int .i64) cells xs):cells=(xs.map D.i).map (Value.int .i64)∧∀x,x∈xs.map D.i→(IntKind.i64).min≤x∧x≤(IntKind.i64).max:=by
 obtain⟨vs,bO,Sd⟩:=h
 have vJ:∀i (hi:i<xs.length),∃n,xs[i]=.int n∧vs i=.int .i64 n∧(IntKind.i64).min≤n∧n≤(IntKind.i64).max:=fun i hi=>by
  obtain⟨n,e1,e2,e3,e4⟩:=(bO i _ (aX hi)).int_inv;exact⟨n,e2,e1,e3,e4⟩
 constructor
 ·apply vc;intro i;by_cases hi:i<xs.length
  ·obtain⟨n,e1,e2,_⟩:=vJ i hi;have:=Sd i 0 (.int .i64 n) hi (by rw[e2];rfl);have e3:i*(Ty.int .i64).size+0=i:=by simp[Ty.size]
   rw[e3] at this;rw[this,ct,ct,aX hi,e1];rfl
  ·rw[jW (by omega),jW (by simp;omega)]
 ·intro x hx;obtain⟨y,hy,rfl⟩:=cu.1 hx;obtain⟨q,hq,rfl⟩:=fX hy;obtain⟨n,f1,f2,f3,f4⟩:=vJ q hq;rw[f1];exact⟨f3,f4⟩
theorem Mk {cap:Nat→Option CSig}{σ:Im}{l:List Int}(h:∀x,x∈l→(IntKind.i64).min≤x∧x≤(IntKind.i64).max):dy cap σ (.int .i64) (l.map (Value.int .i64)) (l.map D.int):=by
 refine⟨fun i=>.int .i64 (l.getD i 0),fun i x hx=>?_,fun i j u hi hj=>?_⟩
 ·rw[ct,aC] at hx;obtain⟨m,hm,rfl⟩:=hx;have e9:l.getD i 0=m:=by rw[aI,hm];rfl
  show Rep cap σ (.int .i64) (.int .i64 (l.getD i 0)) _;rw[e9];have:=h m (ko hm);exact .int .i64 m this.1 this.2
 ·have hj0:j=0:=by
   have:=(ei.1 hj).1;simp[Value.cells] at this;omega
  subst hj0;simp[Value.cells] at hj;subst hj;have db:i<l.length:=by simpa using hi
  simp[Ty.size,aX db,aI]
theorem ayz (ds:List D)(d:D)(h:aj0 ds=some d):tH ctx 76 [.obj 0 0] [(0,.row 3 (.int .i64))] (.tup []) ds d:=by
 unfold aj0 at h;split at h
 case h_2=>cases h
 rename_i d0 xs;split at h
 case isFalse=>cases h
 rename_i hlen;cases h;intro N σ own hv w args cx FY ax hC bx hN aP bC gP h1 h2;obtain⟨v,rfl⟩:∃v,args=#[v]:=by
  match args,aP with
  |⟨[v]⟩,_=>exact⟨v,rfl⟩
 have eT:v=hv 0:=(h1 0).2 rfl;obtain⟨cells,fw,hx,de,du,iQ⟩:=h2 0;have hx:D.list xs=D.list fw:=hx;cases hx;obtain⟨aZ,bo⟩:=TN de.1 du;rcases de.2 with⟨_,h0⟩|⟨g,cap,cur,e1,e2,e3,e4,e5,e6,e7⟩
 ·omega
 have cK:(Ty.int .i64).size=1:=rfl;rw[cK] at e6 e7;have hg:g<w.heap.size:=(ei.1 e3).1;have nW:own g=some 0:=iQ g (by rw[e1];rfl);have kH:(xs.map D.i).length=xs.length:=by simp
 have hH:Go.Sort.Holds (Value.int .i64) w g 0 (xs.map D.i).toArray:=holds_of_blockI e3 (by rw[kH,←aZ,←e7];simp);have dq:=Tryz.slices_Sort_int g 0 cap (xs.map D.i) w hH hg (by omega);rw[eT,e1];rw[kH] at dq;refine dq.mono fun e w' hh=>?_;obtain⟨rfl,n,os,rfl⟩:=hh;rw[atw];refine W7 (C:=ctx) (k:=1) (rest:=[]) (enc:=Value.int .i64) (F:=(lu (xs.map D.i)).toArray) rfl ax bx bC gP e1 e2 e3 e4 e5 e6 nW (by rw[dM,Mi,kH]) (by simp[Mi]) ?_ (by simp[e1]) rfl;exact Mk fun x hx=>bo x ((Gj _).mem_iff.1 hx)
theorem ayy (ds:List D)(d:D)(h:Is ds=some d):eJ ctx 76 [.obj 0 0] [(0,.row 3 (.int .i64))] (.tup []) ds d:=by
 refine eJ.of (by simp) ?_;by_cases h0:∃d0,ds=[d0,.list []]
 case neg=>
  refine ayz ds d ?_;unfold Is at h;split at h
  case h_2=>cases h
  rename_i d0 xs;split at h
  case isFalse=>cases h
  rename_i hlen;have FZ:0<xs.length:=by
   cases xs with
   |nil=>exact absurd ⟨_,rfl⟩ h0
   |cons x xs=>simp
  show(if 0<xs.length∧xs.length≤4294967296 then some (D.tup [.tup [],ints (lu (xs.map D.i))]) else none)=some d;rw[if_pos ⟨FZ,hlen⟩];exact h
 obtain⟨d0,rfl⟩:=h0;obtain rfl:D.tup [.tup [],.list []]=d:=by simpa [Is,lu,ints] using h
 intro N σ own hv w args cx FY ax hC bx hN aP bC gP h1 h2;obtain⟨v,rfl⟩:∃v,args=#[v]:=by
  match args,aP with
  |⟨[v]⟩,_=>exact⟨v,rfl⟩
 have eT:v=hv 0:=(h1 0).2 rfl;obtain⟨cells,fw,hx,de,du,iQ⟩:=h2 0;have hx:D.list []=D.list fw:=hx;cases hx;obtain⟨p,cap,e1⟩:∃p cap,hv 0=.slice p 0 cap:=by
  rcases de.2 with⟨e,_⟩|⟨g,cap,cur,e,_⟩
  ·exact⟨_,_,e⟩
  ·exact⟨_,_,e⟩
 rw[eT,e1];refine(Tryz.slices_Sort_int_none p cap w).mono fun e w' hh=>?_;obtain⟨rfl,rfl⟩:=hh
 refine⟨.tuple #[],σ,own,hv,.tup [],[.list []],rfl,rfl,rfl,.refl σ,ax,.refl _ _,fun k hk _=>rfl,
  fun k o x hx=>⟨.inl hx,fun hc=>by rw[(gP k hc).2.2.1 o] at hx;cases hx⟩,fun k x hx=>⟨.inl hx,fun hc=>by rw[(gP k hc).2.2.2] at hx;cases hx⟩,fun k hx=>absurd hx (bx k),
  fun k j hk=>by obtain⟨g1,g2,g3,g4⟩:=bC k j hk;exact⟨g1,g2,g3,g4,fun _ hn=>by rw[hk] at hn;cases hn⟩,fun t sh hs hd=>?_,fun j=>?_,.tup [] [] [] rfl rfl (fun i t hi=>by simp at hi)⟩
 ·match t,hs with
  |0,hs=>simp at hs;subst hs;exact⟨bn _,fun _=>by simp[e1]⟩
  |t+1,hs=>simp at hs
 ·exact h2 j
def K0 (ds:List D):Option D:=
 match ds with
 |[.list xs]=>if xs.length≤4294967296 then some (ints (j0 (xs.map D.i))) else none
 |_=>none
theorem am4 (l:List Int):Go.Lib.compact l=j0 l:=by
 have e:∀j,l.toArray[j]! =l.getD j 0:=fun j=>by simp[aI,getElem!_def];cases l[j]?<;>rfl
 unfold Go.Lib.compact Go.Lib.compactUpTo j0 qA Go.Lib.keeps;simp only[e]
theorem anl (l:List Int):∀x,x∈j0 l→x∈l:=by
 intro x hx;unfold j0 qA at hx;obtain⟨j,hj,rfl⟩:=cu.1 hx;have af:j<l.length:=fY.1 (eu.1 hj).1;rw[aI,aX af];exact bW af
theorem am5 (ds:List D)(d:D)(h:K0 ds=some d):eJ ctx 77 [.obj 0 0] [(0,.row 3 (.int .i64)),(1,.tr)] (.slice (.int .i64)) ds d:=by
 unfold K0 at h;split at h
 case h_2=>cases h
 rename_i dX;split at h
 case isFalse=>cases h
 rename_i hlen;cases h;show xp ctx 77 3 (.int .i64) [] [.list dX] _;intro N σ w v args xs cells ds' jG ax hC hN de du hblk ha;cases jG;obtain rfl:args=[]:=ve.1 ha.1;have vG:cells.length=dX.length*1:=de.1;obtain⟨aZ,bo⟩:=TN vG du;have cK:(Ty.int .i64).size=1:=rfl;rcases de.2 with⟨e1,h0⟩|⟨g,cap,cur,e1,e2,e3,e4,e5,e6,e7⟩
 ·obtain rfl:dX=[]:=ve.1 h0;subst e1;refine(Tryz.slices_Compact_int_empty none 0 w).mono fun x w' hh=>?_;obtain⟨rfl,rfl⟩:=hh;exact⟨_,[],[],rfl,rfl,.refl _ _,fun _ _ _=>rfl,World.ownsRow_nil _ _ _ _,⟨fun _=>undef,by simp,by simp⟩,fun k hk=>by cases hk⟩
 rw[cK] at e6 e7;subst e1;have kH:(dX.map D.i).length=dX.length:=by simp
 have hg:g<w.heap.size:=(ei.1 e3).1;have hH:Go.Sort.Holds (Value.int .i64) w g 0 (dX.map D.i).toArray:=holds_of_blockI e3 (by rw[kH,←aZ,←e7];simp);have dq:=Tryz.slices_Compact_int g 0 cap (dX.map D.i) w hH (by rw[kH];omega) (by rw[kH];exact e4);rw[kH,am4] at dq;refine dq.mono fun x w' hh=>?_;obtain⟨rfl,n,rfl⟩:=hh;have Fv:(j0 (dX.map D.i)).length≤dX.length:=dO (acb (dX.map D.i) (dX.map D.i).length) (by rw[kH];exact bn _);generalize Cq:j0 (dX.map D.i)++List.replicate (dX.length-(j0 (dX.map D.i)).length) 0=ts;have htl:ts.length=(dX.map D.i).length:=by rw[←Cq];simp;omega
 have fD:=grownBy_sortedI (w:=w) (g:=g) (n:=n) (os:=#[]) ts.toArray;have Cn:=ownsRow_sortedI (w:=w) (base:=N) (n:=n) (os:=#[]) (ss:=dX.map D.i) (ts:=ts) htl e2 e3 (by rw[kH];exact e4) e5 (by omega);have fN:∀W:World,Go.Sort.grow W #[]=W:=fun W=>by simp[Go.Sort.grow]
 rw[fN] at fD Cn;refine⟨_,(j0 (dX.map D.i)).map D.int,(j0 (dX.map D.i)).map (Value.int .i64),rfl,rfl,⟨fD.os,fD.tape,fD.output,fD.size,fun k hk=>fD.block k (by omega) (fun e=>by cases e;omega)⟩,fun k hk ay=>fD.block k hk (fun e=>ay (by cases e;rfl)),?_,Mk fun x hx=>bo x (anl _ x hx),fun k hk=>?_⟩
 ·rw[cK];refine⟨by simp,?_⟩;rcases Cn.2 with⟨f1,_⟩|⟨g',amn,Ri,f1,f2,f3,f4,f5,f6,f7⟩
  ·cases f1
  ·cases f1;refine .inr ⟨g,cap,Ri,by simp,f2,f3,by simp;omega,f5,f6,?_⟩;have:=congrArg (List.take (j0 (dX.map D.i)).length) f7;rw[PL,kH,DX,mu Fv,←Cq,np,List.take_left' (by simp)] at this;rw[dM,DX];exact this
 ·have bp:g=k:=by simpa [Value.ownBlock] using hk
  subst bp;exact⟨.inl (by simp[Value.ownBlock]),lR hg fD.size⟩
def KW (ds:List D):Option D:=
 match ds with
 |[.list xs]=>if xs.length≤4294967296 then some (.list xs) else none
 |_=>none
theorem amN (ds:List D)(d:D)(h:KW ds=some d):∃s,ctx.sig 73=some s∧ij ctx 73 s ds d:=by
 refine⟨_,rfl,?_⟩;unfold KW at h;split at h
 case h_2=>cases h
 rename_i xs;split at h
 case isFalse=>cases h
 rename_i hlen;cases h;intro σ w args ax hC ha;obtain⟨a1,a2,a3⟩:=ha;have adq:=a3 0 _ rfl;obtain⟨v,rfl⟩:∃v,args=#[v]:=by
  have:args.size=1:=by simpa using a1
  match args,this with
  |⟨[v]⟩,_=>exact⟨v,rfl⟩
 simp only[oI] at adq;have fin:∀(v':Value) (w':World) (l:List Int),l.map D.int=xs→(∀x,x∈l→(IntKind.i64).min≤x∧x≤(IntKind.i64).max)→w'.ownsRow w.heap.size 3 1 v' l.length (l.map (Value.int .i64))→Below w.heap.size w w'→
  ∃v σ',Ending.returned v'=Ending.returned v∧σ.le σ'∧σ'.ok w'∧Below w.heap.size w w'∧(∀k o x,σ'.c k o=some x→σ.c k o=some x∨w.heap.size≤k)∧(∀k x,σ'.m k=some x→σ.m k=some x∨w.heap.size≤k)∧nu ctx ⟨[.slice (.int .i64)],.slice (.int .i64),.row 3 (.int .i64)⟩ σ' w w' v (.list xs):=by
  intro v' w' l hl hb bC Fp;subst hl;refine⟨v',σ,rfl,.refl σ,ax.below Fp,Fp,fun _ _ _ h=>.inl h,fun _ _ h=>.inl h,?_⟩;refine⟨_,l.map D.int,rfl,by rw[dM];exact bC,Mk hb,fun k hk=>?_⟩;have bp:=(bC.lt k hk).1;refine⟨fun o=>?_,?_⟩
  ·cases hc:σ.c k o with
   |none=>rfl
   |some u=>have:=World.block_lt_of_cell? w (a:=⟨k,o,none⟩) (ax.c _ _ _ hc);simp at this;omega
  ·cases hc:σ.m k with
   |none=>rfl
   |some u=>have:=(ax.m k u hc).lt;omega
 obtain⟨fw,hx,sw⟩:=Rep.slice_inv adq;cases hx;rcases sw with⟨⟨p,hv⟩,rfl⟩|⟨k,o,c,hv,h1,h2,vs,h3,h4⟩
 ·have hv:v=.slice p 0 0:=hv;subst hv;cases p with
  |none=>
   refine(Tryz.slices_Clone_int_nil 0 0 w).mono fun e w' hh=>?_;obtain⟨rfl,rfl⟩:=hh;exact fin _ _ [] rfl (by simp) (World.ownsRow_nil _ _ _ _) (.refl _ _)
  |some a=>
   refine(Tryz.slices_Clone_int_zero a 0 w).mono fun e w' hh=>?_;obtain⟨v',rfl,bC,_,hb⟩:=hh;exact fin v' w' [] rfl (by simp) bC hb
 ·have hv:v=.slice (some ⟨k,o,none⟩) xs.length c:=hv;subst hv
  have vJ:∀i (hi:i<xs.length),∃n,xs[i]=.int n∧vs i=.int .i64 n∧(IntKind.i64).min≤n∧n≤(IntKind.i64).max:=fun i hi=>by
   obtain⟨n,e1,e2,e3,e4⟩:=(h3 i _ (aX hi)).int_inv;exact⟨n,e2,e1,e3,e4⟩
  have Gc:(xs.map D.i).map D.int=xs:=by
   apply PA (by simp);intro i uC yD;obtain⟨n,e1,_⟩:=vJ i yD;simp[e1]
  have kH:(xs.map D.i).length=xs.length:=by simp
  have aZ:=Tryz.slices_Clone_int k o xs.length c (xs.map D.i) w (by simp) (by omega) (fun j hj=>by
   have bK:j<xs.length:=by simpa using hj
   obtain⟨n,e1,e2,_⟩:=vJ j bK;have:=ax.c _ _ _ (h4 j 0 (.int .i64 n) bK (by rw[e2];rfl));have e3:(xs.map D.i).getD j 0=n:=by simp[aI,bK,e1]
   rw[e3];simpa [Ty.size] using this)
  refine aZ.mono fun e w' hh=>?_;obtain⟨v',rfl,bC,_,hb⟩:=hh;refine fin v' w' (xs.map D.i) Gc (fun x hx=>?_) ?_ hb
  ·obtain⟨y,hy,rfl⟩:=cu.1 hx;obtain⟨q,hq,rfl⟩:=fX hy;obtain⟨n,f1,f2,f3,f4⟩:=vJ q hq;rw[f1];exact⟨f3,f4⟩
  ·rw[kH];rw[xE (by simp)] at bC;exact bC
end Rm
