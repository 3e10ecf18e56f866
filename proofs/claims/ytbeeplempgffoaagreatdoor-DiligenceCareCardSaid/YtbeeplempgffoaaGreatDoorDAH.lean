/-
  Shared texts of this claim.
-/
import Derived.Test.YtbeeplempgffoaaGreatDoorDAG
import Derived.Lib.LaidTab
import Derived.Test.YtbeeplempgffoaaGreatDoorProg
set_option linter.unusedSimpArgs false
set_option linter.unusedVariables false
noncomputable section
namespace Cx
open Go Go.RowKit
def aW (n:Int):Prop:=-9223372036854775808≤n∧n≤9223372036854775807
def ints (l:List Int):D:=.list (l.map .int)
theorem aJ {n:Int}(h:-9223372036854775808≤n∧n≤9223372036854775807):IntKind.i64.wrap n=n:=by
 simp only[IntKind.wrap,IntKind.signed,IntKind.bits];simp;split<;>omega
theorem DTy.int_inv {k:IntKind}{d:D}(h:DTy (.int k) d):∃n,d=.v (.int k n)∧k.min≤n∧n≤k.max:=by
 cases h with
 |int k n h1 h2=>exact⟨n,rfl,h1,h2⟩
 |other t d h=>exact h.elim
theorem DTy.i64_inv {d:D}(h:DTy (.int .i64) d):∃n,d=.int n∧aW n:=by
 obtain⟨n,rfl,h1,h2⟩:=h.int_inv;exact⟨n,rfl,by simpa [IntKind.min,IntKind.max,IntKind.signed,IntKind.bits] using h1,by simpa [IntKind.min,IntKind.max,IntKind.signed,IntKind.bits] using h2⟩
theorem DTy.bool_inv {d:D}(h:DTy .bool d):∃b,d=.bool b:=by
 cases h with
 |bool b=>exact⟨b,rfl⟩
 |other t d h=>exact h.elim
theorem DTy.slice_inv {e:Ty}{d:D}(h:DTy (.slice e) d):∃xs,d=.list xs∧xs.length≤maxLen∧∀x,x∈xs→DTy e.unf x:=by
 cases h with
 |slice e xs hm h=>exact⟨xs,rfl,hm,h⟩
 |other t d h=>exact h.elim
theorem DTy.agg_inv {ts:List Ty}{d:D}(h:DTy (.agg ts) d):∃ds,d=.agg ds∧DTys ts ds:=by
 cases h with
 |agg ts ds h=>exact⟨ds,rfl,h⟩
 |other t d h=>exact h.elim
theorem DTys.cons_inv {t:Ty}{ts:List Ty}{ds:List D}(h:DTys (t::ts) ds):∃d cH,ds=d::cH∧DTy t d∧DTys ts cH:=by
 cases h with
 |cons h hs=>exact⟨_,_,rfl,h,hs⟩
theorem DTys.nil_inv {ds:List D}(h:DTys [] ds):ds=[]:=by cases h;rfl
theorem kz {α:Type}{enc:α→D}{P:α→Prop}{xs:List D}(h:∀x,x∈xs→∃a,x=enc a∧P a):∃l:List α,xs=l.map enc∧∀a,a∈l→P a:=by
 induction xs with
 |nil=>exact⟨[],rfl,fun _ h=>nomatch h⟩
 |cons x xs ih=>
  obtain⟨l,hl,hp⟩:=ih fun y hy=>h y (fL _ hy);obtain⟨a,ha,pa⟩:=h x (gd ..)
  exact⟨a::l,by rw[hl,ha];rfl,fun b hb=>by
   rcases cW.1 hb with e|hb
   ·rw[e];exact pa
   ·exact hp b hb⟩
theorem DTy.ints_inv {d:D}(h:DTy (.slice (.int .i64)) d):∃l:List Int,d=ints l∧l.length≤maxLen∧∀x,x∈l→aW x:=by
 obtain⟨xs,rfl,hm,hx⟩:=h.slice_inv;obtain⟨l,rfl,hl⟩:=kz (enc:=D.int) (P:=aW) fun x hh=>(hx x hh).i64_inv;exact⟨l,rfl,by simpa using hm,hl⟩
section
variable (ρ:Env) (T:cL)
@[simp] theorem aEK (t:Nat):PE.ev ρ (.r t)=ρ.r t:=_root_.id rfl
@[simp] theorem aEH (t:Nat):PE.ev ρ (.o t)=ρ.o t:=_root_.id rfl
@[simp] theorem aEt (d:D):PE.ev ρ (.con d)=d:=_root_.id rfl
@[simp] theorem aEq (e:PE)(i:Nat):PE.ev ρ (.cell e i)=(PE.ev ρ e).c i:=_root_.id rfl
@[simp] theorem aEU (e:PE)(a n:Nat):PE.ev ρ (.sub e a n)=.agg (((PE.ev ρ e).cells.drop a).take n):=_root_.id rfl
@[simp] theorem aEN (e x:PE)(n:Nat):PE.ev ρ (.setc e n x)=.agg (dm (PE.ev ρ e).cells n (PE.ev ρ x).cells):=_root_.id rfl
@[simp] theorem aEA (es:List PE):PE.ev ρ (.mk es)=.agg (PE.evc ρ es):=_root_.id rfl
@[simp] theorem aEl (op:BinOp)(k:IntKind)(x y:PE):PE.ev ρ (.ai op k x y)=.v (.int k (cX op k (PE.ev ρ x).i (PE.ev ρ y).i)):=_root_.id rfl
@[simp] theorem aEr (op:BinOp)(x y:PE):PE.ev ρ (.ci op x y)=.v (.bool (iU op (PE.ev ρ x).i (PE.ev ρ y).i)):=_root_.id rfl
@[simp] theorem aEp (op:BinOp)(x y:PE):PE.ev ρ (.cb op x y)=.v (.bool (wE op (PE.ev ρ x).b (PE.ev ρ y).b)):=_root_.id rfl
@[simp] theorem aEv (op:BinOp)(x y:PE):PE.ev ρ (.cs op x y)=.v (.bool (wF op (PE.ev ρ x).s (PE.ev ρ y).s)):=_root_.id rfl
@[simp] theorem aEF (x:PE):PE.ev ρ (.nt x)=.v (.bool (!(PE.ev ρ x).b)):=_root_.id rfl
@[simp] theorem aEu (k:IntKind)(x:PE):PE.ev ρ (.conv k x)=.v (.int k (k.wrap (PE.ev ρ x).i)):=_root_.id rfl
@[simp] theorem aEI (c a b:PE):PE.ev ρ (.pick c a b)=if(PE.ev ρ c).b=true then PE.ev ρ a else PE.ev ρ b:=by
  simp only[PE.ev];cases(PE.ev ρ c).b<;>rfl
@[simp] theorem aEB (n:Nat)(e:PE):PE.ev ρ (ah n e)=kg n (PE.ev ρ e):=amd ρ n e
@[simp] theorem aEo (x:PE):PE.ev ρ (.bytes x)=.list ((PE.ev ρ x).s.data.toList.map fun b=>.v (.int .u8 b.toNat)):=_root_.id rfl
@[simp] theorem aEy (x:PE):PE.ev ρ (.llen x)=.v (.int .i64 (PE.ev ρ x).l.length):=_root_.id rfl
@[simp] theorem aER (x:PE):PE.ev ρ (.slen x)=.v (.int .i64 (PE.ev ρ x).s.size):=_root_.id rfl
@[simp] theorem aEC (x:PE):PE.ev ρ (.mlen x)=.v (.int .i64 (PE.ev ρ x).m.length):=_root_.id rfl
@[simp] theorem aEG (x i:PE):PE.ev ρ (.nth x i)=(PE.ev ρ x).l.getD (PE.ev ρ i).i.toNat .none:=_root_.id rfl
@[simp] theorem aEx (x i:PE):PE.ev ρ (.idx x i)=.v (.bool (decide (0≤(PE.ev ρ i).i∧(PE.ev ρ i).i<(PE.ev ρ x).l.length))):=_root_.id rfl
@[simp] theorem aEO (x i y:PE)(n:Nat):PE.ev ρ (.setn x i n y)=.list ((PE.ev ρ x).l.set (PE.ev ρ i).i.toNat (tT ((PE.ev ρ x).l.getD (PE.ev ρ i).i.toNat .none) n (PE.ev ρ y))):=_root_.id rfl
@[simp] theorem aEn (x y:PE):PE.ev ρ (.app x y)=.list ((PE.ev ρ x).l++(PE.ev ρ y).l):=_root_.id rfl
@[simp] theorem aEz (es:List PE):PE.ev ρ (.lst es)=.list (PE.evs ρ es):=_root_.id rfl
@[simp] theorem aEM (x y:PE):PE.ev ρ (.rep x y)=.list (List.replicate (PE.ev ρ x).i.toNat (PE.ev ρ y)):=_root_.id rfl
@[simp] theorem aEQ (x a b:PE):PE.ev ρ (.slc x a b)=.list (((PE.ev ρ x).l.take (PE.ev ρ b).i.toNat).drop (PE.ev ρ a).i.toNat):=_root_.id rfl
@[simp] theorem aES (x a b:PE):PE.ev ρ (.slok x a b)=.v (.bool (decide (0≤(PE.ev ρ a).i∧(PE.ev ρ a).i≤(PE.ev ρ b).i∧(PE.ev ρ b).i≤(PE.ev ρ x).l.length))):=_root_.id rfl
@[simp] theorem aEL (x:PE):PE.ev ρ (.ref x)=.ref (PE.ev ρ x):=_root_.id rfl
@[simp] theorem aEw (x:PE):PE.ev ρ (.deref x)=(PE.ev ρ x).deref:=_root_.id rfl
@[simp] theorem aEJ (m k v:PE):PE.ev ρ (.put m k v)=.map (ld (PE.ev ρ k) (PE.ev ρ v) (PE.ev ρ m).m):=_root_.id rfl
@[simp] theorem aED (x y:PE):PE.ev ρ (.mn x y)=if(PE.ev ρ y).i<(PE.ev ρ x).i then PE.ev ρ y else PE.ev ρ x:=by
  simp only[PE.ev];by_cases h:(PE.ev ρ y).i<(PE.ev ρ x).i<;>simp[h]
@[simp] theorem aEE (x y:PE):PE.ev ρ (.mx x y)=if(PE.ev ρ y).i>(PE.ev ρ x).i then PE.ev ρ y else PE.ev ρ x:=by
  simp only[PE.ev];by_cases h:(PE.ev ρ y).i>(PE.ev ρ x).i<;>simp[h]
@[simp] theorem aEW (es:List PE):PE.ev ρ (.tup es)=.tup (PE.evs ρ es):=_root_.id rfl
@[simp] theorem aEV (x:PE)(i:Nat):PE.ev ρ (.tget x i)=(PE.ev ρ x).tget i:=_root_.id rfl
@[simp] theorem aEs (f:Nat)(es:List PE):PE.ev ρ (.clo f es)=.clo f (PE.evs ρ es):=_root_.id rfl
@[simp] theorem aEm (x y:PE):PE.ev ρ (.an x y)=.v (.bool ((PE.ev ρ x).b&&(PE.ev ρ y).b)):=_root_.id rfl
@[simp] theorem aE0:PE.evs ρ []=[]:=_root_.id rfl
@[simp] theorem aEZ (e:PE)(es:List PE):PE.evs ρ (e::es)=PE.ev ρ e::PE.evs ρ es:=_root_.id rfl
@[simp] theorem aEY:PE.evc ρ []=[]:=_root_.id rfl
@[simp] theorem aEX (e:PE)(es:List PE):PE.evc ρ (e::es)=(PE.ev ρ e).cells++PE.evc ρ es:=_root_.id rfl
@[simp] theorem Pq (x:Bool):(D.bool x).b=x:=_root_.id rfl
@[simp] theorem aEg (k:IntKind)(n:Int):(D.v (.int k n)).i=n:=_root_.id rfl
@[simp] theorem Dm (n:Int):(D.int n).i=n:=_root_.id rfl
@[simp] theorem aEb (x:List D):(D.list x).l=x:=_root_.id rfl
@[simp] theorem aD9 (l:List Int):(ints l).l=l.map .int:=_root_.id rfl
@[simp] theorem aEc (x:List (D×D)):(D.map x).m=x:=_root_.id rfl
@[simp] theorem aD1 (x:List D)(i:Nat):(D.agg x).c i=x.getD i .none:=_root_.id rfl
@[simp] theorem aD2 (x:List D):(D.agg x).cells=x:=_root_.id rfl
@[simp] theorem aEa (x:List D):(D.list x).cells=[.list x]:=_root_.id rfl
@[simp] theorem aD8 (x:List Int):(ints x).cells=[ints x]:=_root_.id rfl
@[simp] theorem aD6 (n:Int):(D.int n).cells=[.int n]:=_root_.id rfl
@[simp] theorem aD3 (n:Bool):(D.bool n).cells=[.bool n]:=_root_.id rfl
@[simp] theorem aEf (x:Value):(D.v x).cells=[.v x]:=_root_.id rfl
@[simp] theorem aEe (x:List D)(i:Nat):(D.tup x).tget i=x.getD i .none:=_root_.id rfl
@[simp] theorem aEd (x:D):(D.ref x).deref=x:=_root_.id rfl
@[simp] theorem aGY (s:SE)(t:Nat):(s.ev ρ).r t=PE.ev ρ (s.getR t):=_root_.id rfl
@[simp] theorem aGX (s:SE)(t:Nat):(s.ev ρ).o t=PE.ev ρ (s.getO t):=_root_.id rfl
@[simp] theorem aE9 (o:List (Nat×PE))(u:Nat):SE.getR ⟨[],o⟩ u=.r u:=_root_.id rfl
@[simp] theorem aE8 (t:Nat)(e:PE)(r o:List (Nat×PE))(u:Nat):SE.getR ⟨(t,e)::r,o⟩ u=if t=u then e else SE.getR ⟨r,o⟩ u:=by
  simp only[SE.getR,bS];by_cases h:t=u
  ·subst h;simp
  ·simp[gA h,h]
@[simp] theorem aE7 (r:List (Nat×PE))(u:Nat):SE.getO ⟨r,[]⟩ u=.o u:=_root_.id rfl
@[simp] theorem aE6 (t:Nat)(e:PE)(r o:List (Nat×PE))(u:Nat):SE.getO ⟨r,(t,e)::o⟩ u=if t=u then e else SE.getO ⟨r,o⟩ u:=by
  simp only[SE.getO,bS];by_cases h:t=u
  ·subst h;simp
  ·simp[gA h,h]
@[simp] theorem setR_r (t u:Nat)(d:D):(ρ.setR t d).r u=if u=t then d else ρ.r u:=Env.setR_r ρ t u d
@[simp] theorem aG4 (t u:Nat)(d:D):(ρ.setR t d).o u=ρ.o u:=_root_.id rfl
@[simp] theorem setO_o (t u:Nat)(d:D):(ρ.setO t d).o u=if u=t then d else ρ.o u:=Env.setO_o ρ t u d
@[simp] theorem aG3 (t u:Nat)(d:D):(ρ.setO t d).r u=ρ.r u:=_root_.id rfl
@[simp] theorem aGQ (lr lo:List Nat)(vr vo:List D)(u:Nat):(ρ.put lr vr lo vo).r u=putL ρ.r lr vr u:=_root_.id rfl
@[simp] theorem aGP (lr lo:List Nat)(vr vo:List D)(u:Nat):(ρ.put lr vr lo vo).o u=putL ρ.o lo vo u:=_root_.id rfl
@[simp] theorem join_r (ρ':Env)(lr lo:List Nat)(u:Nat):(ρ.join lr lo ρ').r u=if u∈lr then ρ'.r u else ρ.r u:=Env.join_r ρ ρ' lr lo u
@[simp] theorem join_o (ρ':Env)(lr lo:List Nat)(u:Nat):(ρ.join lr lo ρ').o u=if u∈lo then ρ'.o u else ρ.o u:=Env.join_o ρ ρ' lr lo u
@[simp] theorem aGN (f:Nat→D)(i:Nat)(is:List Nat)(x:D)(xs:List D)(u:Nat):putL f (i::is) (x::xs) u=if u=i then x else putL f is xs u:=LP f i is x xs u
@[simp] theorem aGO (f:Nat→D)(xs:List D)(u:Nat):putL f [] xs u=f u:=LQ f xs u
@[simp] theorem aEi (ds:List D)(u:Nat):(m3 ds).r u=ds.getD u .none:=_root_.id rfl
@[simp] theorem aFF:holds [] ρ=true:=_root_.id rfl
@[simp] theorem aFE (g:Nat×Bool)(gs:List (Nat×Bool)):holds (g::gs) ρ=((ρ.r g.1).b==g.2&&holds gs ρ):=_root_.id rfl
variable (Q:Out→Prop)
@[simp] theorem aHI (s:SE):aK T (.next s) ρ Q=Q (.next (s.ev ρ)):=_root_.id rfl
@[simp] theorem aHF (id:Nat)(s:SE):aK T (.exit id s) ρ Q=Q (.exit id (s.ev ρ)):=_root_.id rfl
@[simp] theorem aHJ (e:PE):aK T (.ret e) ρ Q=Q (.ret (e.ev ρ)):=_root_.id rfl
@[simp] theorem aHE (e:PE)(k:PT):aK T (.chk e k) ρ Q=((e.ev ρ).b=true∧aK T k ρ Q):=_root_.id rfl
@[simp] theorem aHG (c:PE)(a b:PT):aK T (.ite c a b) ρ Q=if(c.ev ρ).b=true then aK T a ρ Q else aK T b ρ Q:=_root_.id rfl
@[simp] theorem aHC (s:SE)(gs:List (Nat×Bool))(dst f:Nat)(args:List PE)(k:PT):aK T (.call s gs dst f args k) ρ Q=if holds gs (s.ev ρ)=true then ∃d,ak T f (PE.evs ρ args) d∧aK T k ((s.ev ρ).setR dst d) Q else aK T k (s.ev ρ) Q:=_root_.id rfl
@[simp] theorem aHH (s:SE)(c:PE)(lr lo:List Nat)(a b k:PT):aK T (.iteS s c lr lo a b k) ρ Q=if(c.ev ρ).b=true then aK T a (s.ev ρ) (kW (s.ev ρ) lr lo (g8 (fun ρ'=>aK T k ρ' Q) Q)) else aK T b (s.ev ρ) (kW (s.ev ρ) lr lo (g8 (fun ρ'=>aK T k ρ' Q) Q)):=_root_.id rfl
@[simp] theorem aHA (s:SE)(id:Nat)(lr lo:List Nat)(a k:PT):aK T (.blockS s id lr lo a k) ρ Q=aK T a (s.ev ρ) (me (s.ev ρ) id lr lo (g8 (fun ρ'=>aK T k ρ' Q) Q)):=_root_.id rfl
@[simp] theorem aHB (s:SE)(c:PC)(k:PT):aK T (.brk s c k) ρ Q=aL T c (s.ev ρ) (g8 (fun ρ'=>aK T k ρ' Q) Q):=_root_.id rfl
variable (K:Env→Prop) (id:Nat) (lr lo bM bL:List Nat) (K2:List D→List D→Prop)
@[simp] theorem aG1 (ρ':Env):g8 K Q (.next ρ')=K ρ':=_root_.id rfl
@[simp] theorem aG0 (i:Nat)(ρ':Env):g8 K Q (.exit i ρ')=Q (.exit i ρ'):=_root_.id rfl
@[simp] theorem aG2 (d:D):g8 K Q (.ret d)=Q (.ret d):=_root_.id rfl
@[simp] theorem aFX (ρ':Env):kW ρ lr lo Q (.next ρ')=Q (.next (ρ.join lr lo ρ')):=_root_.id rfl
@[simp] theorem aFY (d:D):kW ρ lr lo Q (.ret d)=Q (.ret d):=_root_.id rfl
@[simp] theorem aDJ (ρ':Env):me ρ id lr lo Q (.next ρ')=Q (.next (ρ.join lr lo ρ')):=_root_.id rfl
@[simp] theorem aDI (i:Nat)(ρ':Env):me ρ id lr lo Q (.exit i ρ')=if i=id then Q (.next (ρ.join lr lo ρ')) else Q (.exit i ρ'):=_root_.id rfl
@[simp] theorem aDK (d:D):me ρ id lr lo Q (.ret d)=Q (.ret d):=_root_.id rfl
@[simp] theorem aGU (ρ':Env):fA ρ id bM bL lr lo K2 Q (.next ρ')=K2 (lr.map ρ'.r) (lo.map ρ'.o):=_root_.id rfl
@[simp] theorem aGT (i:Nat)(ρ':Env):fA ρ id bM bL lr lo K2 Q (.exit i ρ')=if i=id then Q (.next (ρ.put bM (bM.map ρ'.r) bL (bL.map ρ'.o))) else Q (.exit i ρ'):=_root_.id rfl
@[simp] theorem aGV (d:D):fA ρ id bM bL lr lo K2 Q (.ret d)=Q (.ret d):=_root_.id rfl
@[simp] theorem aHD (s:SE)(gs:List (Nat×Bool))(dst:Nat)(e:PE)(args:List PE)(k:PT):aK T (.callc s gs dst e args k) ρ Q=if holds gs (s.ev ρ)=true then ∃f caps d,e.ev ρ=.clo f caps∧ak T f (PE.evs ρ args++caps) d∧aK T k ((s.ev ρ).setR dst d) Q else aK T k (s.ev ρ) Q:=_root_.id rfl
@[simp] theorem aEh (rt:Option PE)(K3:List D→Prop)(i:Nat)(ρ':Env):uu ρ lo rt K3 Q (.exit i ρ')=if i=cT then ∃e,rt=some e∧Q (.ret (e.ev (ρ.put [] [] lo (lo.map ρ'.o)))) else Q (.exit i (ρ.put [] [] lo (lo.map ρ'.o))):=_root_.id rfl
@[simp] theorem aEj (J:Nat)(ds:List D)(u:Nat):(Ap J ds).r u=(D.none::ds).getD u .none:=_root_.id rfl
theorem amb (J:Nat)(ds:List D)(u:Nat):(Ap J ds).o u=if u=J then .list [] else .none:=by
 show(bif Nat.beq u J then D.list [] else .none)=_;by_cases h:u=J
 ·subst h;simp
 ·simp[gA h,h]
@[simp] theorem aGL (p:Nat)(x:D):partsOf [p] x=[x.tget 0]:=_root_.id rfl
end
section
variable (k:IntKind) (a b:Int)
@[simp] theorem aDB:cX .add k a b=k.wrap (a+b):=_root_.id rfl
@[simp] theorem aDF:cX .sub k a b=k.wrap (a-b):=_root_.id rfl
@[simp] theorem aDC:cX .mul k a b=k.wrap (a*b):=_root_.id rfl
@[simp] theorem aDD:cX .quo k a b=k.wrap (a.tdiv b):=_root_.id rfl
@[simp] theorem aDE:cX .rem k a b=a.tmod b:=_root_.id rfl
@[simp] theorem aDT:iU .eql a b=(a==b):=_root_.id rfl
@[simp] theorem aDY:iU .neq a b=(a !=b):=_root_.id rfl
@[simp] theorem aDX:iU .lss a b=decide (a<b):=_root_.id rfl
@[simp] theorem aDW:iU .leq a b=decide (a≤b):=_root_.id rfl
@[simp] theorem aDV:iU .gtr a b=decide (a>b):=_root_.id rfl
@[simp] theorem aDU:iU .geq a b=decide (a≥b):=_root_.id rfl
variable (x y:Bool)
@[simp] theorem aDM:wE .eql x y=(x==y):=_root_.id rfl
@[simp] theorem aDN:wE .neq x y=(!(x==y)):=_root_.id rfl
end
theorem ak.of_tree {tab:Nat→Option PC}{ext:Nat→Option (aY→List D→Option D)}{f:Nat}{pc:PC}{t:PT}{ds:List D}{d:D}(hx:ext f=none)(ht:tab f=some pc)(he:tree pc=t)(h:aK (dq tab ext) t (m3 ds) (fun x=>x=.ret d)):ak (dq tab ext) f ds d:=
 .of_pc hx ht (Nx (he▸h))
@[simp] theorem aD7 (n:Int):D.v (.int .i64 n)=D.int n:=_root_.id rfl
@[simp] theorem aD5 (b:Bool):D.v (.bool b)=D.bool b:=_root_.id rfl
@[simp] theorem alj (a b:Int):(D.int a=D.int b)=(a=b):=by
  apply propext;constructor
  ·intro h;injection h with h;injection h
  ·intro h;rw[h]
@[simp] theorem aD4 (a b:Bool):(D.bool a=D.bool b)=(a=b):=by
  apply propext;constructor
  ·intro h;injection h with h;injection h
  ·intro h;rw[h]
section
variable (c:Prop) [Decidable c] (x y:D)
@[simp] theorem aFV:(if c then x else y).b=if c then x.b else y.b:=by split<;>rfl
@[simp] theorem aFW:(if c then x else y).i=if c then x.i else y.i:=by split<;>rfl
end
@[simp] theorem aHK:IntKind.i64.wrap 1=1:=aJ (by omega)
@[simp] theorem aHL:IntKind.i64.wrap 0=0:=aJ (by omega)
end Cx
namespace Cx
open Go
inductive Tm where
 |mk (op n:Int) (args:List Tm)
instance:Inhabited Tm:=⟨.mk 0 0 []⟩
namespace Tm
def op:Tm→Int|.mk o _ _=>o
def n:Tm→Int|.mk _ n _=>n
def args:Tm→List Tm|.mk _ _ aa=>aa
end Tm
mutual
def di:Tm→D
 |.mk o n aa=>.agg [.int o,.int n,.list (JK aa)]
def JK:List Tm→List D
 |[]=>[]
 |t::ts=>di t::JK ts
end
theorem Pz:∀l:List Tm,JK l=l.map di
 |[]=>rfl
 |t::l=>by rw[JK,Pz l];rfl
theorem DB (t:Tm):di t=.agg [.int t.op,.int t.n,.list (t.args.map di)]:=by
 cases t with
 |mk o n aa=>rw[di,Pz];rfl
inductive Tm.OK:Tm→Prop where
 |mk (o n:Int) (aa:List Tm) (h1:aW o) (h2:aW n) (h3:aa.length≤maxLen) (h:∀a,a∈aa→Tm.OK a):Tm.OK (.mk o n aa)
theorem DTy.trm_inv {d:D}(h:DTy .trmA d):∃t:Tm,d=di t∧t.OK:=by
 suffices hs:∀(m:Nat) (d:D),sizeOf d≤m→DTy .trmA d→∃t:Tm,d=di t∧t.OK from hs _ d (bK _) h
 intro m
 induction m with
 |zero=>
  intro d hm h;cases d<;>simp at hm
 |succ m ih=>
  intro d hm h;obtain⟨ds,rfl,hs⟩:=DTy.agg_inv h;obtain⟨d1,ds,rfl,h1,hs⟩:=hs.cons_inv;obtain⟨d2,ds,rfl,h2,hs⟩:=hs.cons_inv;obtain⟨d3,ds,rfl,h3,hs⟩:=hs.cons_inv;obtain rfl:=hs.nil_inv;obtain⟨o,rfl,b1⟩:=h1.i64_inv;obtain⟨n,rfl,b2⟩:=h2.i64_inv;obtain⟨xs,rfl,hl,hx⟩:=h3.slice_inv
  obtain⟨l,rfl,aB⟩:=kz (enc:=di) (P:=Tm.OK) fun x hh=>ih x (by
   have:=List.sizeOf_lt_of_mem hh;simp at hm;omega) (hx x hh)
  exact⟨.mk o n l,by rw[di,Pz],.mk o n l b1 b2 (by simpa using hl) aB⟩
theorem DTy.trms_inv {d:D}(h:DTy (.slice .trm) d):∃l:List Tm,d=.list (l.map di)∧l.length≤maxLen∧∀t,t∈l→t.OK:=by
 obtain⟨xs,rfl,hl,hx⟩:=h.slice_inv;obtain⟨l,rfl,aB⟩:=kz (enc:=di) (P:=Tm.OK) fun x hh=>DTy.trm_inv (hx x hh);exact⟨l,rfl,by simpa using hl,aB⟩
end Cx
namespace Cx
open Go
def U9 (g:Nat)(zs:List Int):Nat→Option (Ty×D):=fun k=>bif Nat.beq k g then some (.agg (zs.map fun _=>.int .i64),.agg (zs.map fun z=>.v (.int .i64 z))) else none
theorem awE {C:Ctx}{g:Nat}{zs:List Int}{name:String}{W:World}(hC:C.glob=U9 g zs)(hg:C.P.globalNamed name=some g)(hz:zs.all (fun z=>decide (IntKind.i64.min≤z)&&decide (z≤IntKind.i64.max))=true)
 (h:Lib.TabIs C.P W name .i64 zs):CtxOK C (nq W):=by
 refine⟨fun k x hx=>?_⟩;rw[hC] at hx;unfold U9 at hx;cases hk:Nat.beq k g<;>simp only[hk,cond_true,cond_false] at hx
 ·cases hx
 cases hx;obtain rfl:=aN hk
 have Er:Rep C.cap (nq W) (.agg (zs.map fun _=>.int .i64)) (.agg (zs.map fun z=>Value.int .i64 z).toArray) (.agg (zs.map fun z=>.v (.int .i64 z))):=by
  refine .agg _ _ _ (by simp) (by simp) (fun i t ht=>?_) (fun i t ht=>?_)
  ·rw[dG,aR] at ht;obtain⟨z,xx,rfl⟩:=ht;rw[bh,bh,dG,dG,xx];have:=fl.1 hz z (ud xx);simp only[az,decide_eq_true_eq] at this;exact .int _ _ this.1 this.2
  ·rw[dG,aR] at ht;obtain⟨z,_,rfl⟩:=ht;rfl
 refine .ref _ k 0 _ _ Er fun j u hu=>?_;simp only[Value.cells,Hc,dG,aR] at hu;obtain⟨z,xx,rfl⟩:=hu;have ar:=(jh.1 xx).1;have:=h.cell hg j ar;show W.cell? ⟨k,0+j,none⟩=_;rw[mU,this,bh,xx];rfl
end Cx
namespace Cx
open Go Go.RowKit
def loops:PC→List PC
 |.seq a b=>loops a++loops b
 |.ite _ _ _ a b=>loops a++loops b
 |.block id lr lo (.loop Ry Rt a)=>loops a++[.block id lr lo (.loop Ry Rt a)]
 |.block _ _ _ a=>loops a
 |.loop _ _ a=>loops a
 |.each e ps lo rt a=>loops a++[.each e ps lo rt a]
 |.meach J ps dk lo a=>loops a++[.meach J ps dk lo a]
 |_=>[]
def Pc:PC→PC
 |.block _ _ _ (.loop _ _ a)=>a
 |.each _ _ _ _ a=>a
 |.meach _ _ _ _ a=>a
 |_=>.skip
def KW (c:PC)(k:Nat):PC:=(loops c).getD k .skip
def rnd:PC→PT
 |.block id lr lo (.loop Ry Rt a)=>round id lr lo Ry Rt a
 |.each _ _ lo _ a=>qq lo a
 |.meach _ _ _ lo a=>qq lo a
 |_=>.next .id
inductive Shp where
 |lp (id:Nat) (bM bL lr lo:List Nat)
 |ea (lo:List Nat)
 |no
def B1:PC→Shp
 |.block id bM bL (.loop lr lo _)=>.lp id bM bL lr lo
 |.each _ _ lo _ _=>.ea lo
 |.meach _ _ _ lo _=>.ea lo
 |_=>.no
def told (c:PC):PT×List (Shp×PT):=(tree c,(loops c).map fun l=>(B1 l,rnd l))
theorem Ng {o:Option PC}{t:PT}{l:List (Shp×PT)}(h:o.map told=some (t,l)):o=some (o.getD .skip)∧tree (o.getD .skip)=t∧∀k x,l[k]?=some x→(B1 (KW (o.getD .skip) k),rnd (KW (o.getD .skip) k))=x:=by
 cases o with
 |none=>cases h
 |some c=>
  have h1:told c=(t,l):=by injection h
  unfold told at h1;injection h1 with h1 h2
  refine⟨rfl,h1,fun k x hx=>?_⟩;subst h2;simp only[dG,aR] at hx;obtain⟨y,hy,rfl⟩:=hx;have:KW ((some c:Option PC).getD .skip) k=y:=by
   show(loops c).getD k .skip=y;rw[bh,hy];rfl
  rw[this]
theorem avz {c:PC}{id:Nat}{bM bL lr lo:List Nat}{t:PT}(h:(B1 c,rnd c)=(.lp id bM bL lr lo,t)):round id bM bL lr lo (Pc c)=t:=by
 injection h with h1 h2
 subst h2;unfold B1 at h1;split at h1
 ·cases h1;rfl
 all_goals cases h1
theorem alZ {c:PC}{lo:List Nat}{t:PT}(h:(B1 c,rnd c)=(.ea lo,t)):qq lo (Pc c)=t:=by
 injection h with h1 h2
 subst h2;unfold B1 at h1;split at h1
 ·cases h1
 ·cases h1;rfl
 ·cases h1;rfl
 ·cases h1
def cM {α:Type}(x:α):α:=Classical.choose (⟨x,rfl⟩:∃y,y=x)
theorem D8 {α:Type}(x:α):cM x=x:=Classical.choose_spec (⟨x,rfl⟩:∃y,y=x)
def bl (o:Option PC):Nat→PC:=fun k=>Pc (KW (o.getD .skip) k)
abbrev ab (o:Option PC):PC:=cM (o.getD .skip)
abbrev aZ (o:Option PC):Nat→PC:=cM (bl o)
section
variable {o:Option PC} {F:(Nat→PC)→PT×List (Shp×PT)}
theorem awQ (h:o.map told=some (F (bl o))):o=some (ab o):=by unfold ab;rw[D8];exact(Ng (t:=(F (bl o)).1) (l:=(F (bl o)).2) h).1
theorem bE (h:o.map told=some (F (bl o))):tree (ab o)=(F (aZ o)).1:=by unfold ab aZ;rw[D8,D8];exact(Ng (t:=(F (bl o)).1) (l:=(F (bl o)).2) h).2.1
theorem aT (h:o.map told=some (F (bl o)))(k:Nat){id:Nat}{bM bL lr lo:List Nat}{t:(Nat→PC)→PT}(hk:∀b,(F b).2[k]?=some (.lp id bM bL lr lo,t b)):round id bM bL lr lo (aZ o k)=t (aZ o):=by
 unfold aZ;rw[D8];exact avz ((Ng (t:=(F (bl o)).1) (l:=(F (bl o)).2) h).2.2 k _ (hk _))
theorem Vg (h:o.map told=some (F (bl o)))(k:Nat){lo:List Nat}{t:(Nat→PC)→PT}(hk:∀b,(F b).2[k]?=some (.ea lo,t b)):qq lo (aZ o k)=t (aZ o):=by
 unfold aZ;rw[D8];exact alZ ((Ng (t:=(F (bl o)).1) (l:=(F (bl o)).2) h).2.2 k _ (hk _))
end
theorem av {α:Type}{R:Nat→α→Prop}{f:Nat}{x:α}{l:List (Nat×α)}(h:R f x)(k:G7 R l):G7 R ((f,x)::l):=⟨h,k⟩
theorem acT {α:Type}:∀{l:List (Nat×α)},(l.map (·.1)).Nodup→∀{k f:Nat} {x:α},l[k]?=some (f,x)→bS l f=some x
 |[],_,k,f,x,h=>by simp at h
 |y::l,hn,0,f,x,h=>by
  simp only[NW,bx] at h;subst h;simp[bS]
 |y::l,hn,k+1,f,x,h=>by
  simp only[YM] at h;rw[jN,uf] at hn;have hm:f∈l.map (·.1):=dH.2 ⟨(f,x),ud h,rfl⟩;have hb:Nat.beq y.1 f=false:=by
   cases e:Nat.beq y.1 f with
   |false=>rfl
   |true=>rw[dF e] at hn;exact absurd hm hn.1
  simp only[bS,hb,cond_false];exact acT hn.2 h
abbrev pT:PE:=.con (.bool true)
abbrev pF:PE:=.con (.bool false)
abbrev pN:PE:=.con .none
abbrev pL:PE:=.con (.list [])
abbrev pi (n:Int):PE:=.con (.int n)
abbrev aH (a b:PE):PE:=.ai .add .i64 a b
abbrev aS (a b:PE):PE:=.ai .sub .i64 a b
abbrev ae (a b:PE):PE:=.ci .eql a b
abbrev aC (a b:PE):PE:=.ci .neq a b
abbrev ao (a b:PE):PE:=.ci .lss a b
abbrev aX (a b:PE):PE:=.ci .leq a b
abbrev aP (a b:PE):PE:=.ci .gtr a b
abbrev bD (a b:PE):PE:=.ci .geq a b
abbrev pc (a:PE)(i:Nat):PE:=.cell a i
abbrev pn (a b:PE):PE:=.nth a b
abbrev aq (a b:PE):PE:=.idx a b
abbrev z2:PE:=.con (.agg [(.int 0),(.int 0)])
abbrev z3:PE:=.con (.agg [(.int 0),(.int 0),(.int 0)])
abbrev z4:PE:=.con (.agg [(.int 0),(.int 0),(.int 0),(.int 0)])
abbrev z5:PE:=.con (.agg [(.int 0),(.int 0),(.int 0),(.int 0),(.int 0)])
abbrev z6:PE:=.con (.agg [(.int 0),(.int 0),(.int 0),(.int 0),(.int 0),(.int 0)])
abbrev z9:PE:=.con (.agg [(.int 0),(.int 0),(.int 0),(.int 0),(.int 0),(.int 0),(.int 0),(.int 0),(.int 0)])
abbrev dD:PE:=.con (.agg [(.int 0),(.int 0),(.int 0),(.int 0),(.int 0),(.int 0),(.int 0),(.int 0),(.int 0),(.int 0),(.int 0),(.int 0),(.int 0),(.int 0),(.int 0)])
abbrev r0:PE:=.r 0
abbrev r1:PE:=.r 1
abbrev r2:PE:=.r 2
abbrev r3:PE:=.r 3
abbrev r4:PE:=.r 4
abbrev r5:PE:=.r 5
abbrev r6:PE:=.r 6
abbrev r7:PE:=.r 7
abbrev r8:PE:=.r 8
abbrev r9:PE:=.r 9
abbrev bN:PE:=.r 10
abbrev bW:PE:=.r 11
abbrev bQ:PE:=.r 12
abbrev cO:PE:=.r 13
abbrev bH:PE:=.r 14
abbrev df:PE:=.r 15
abbrev dA:PE:=.r 16
abbrev fy:PE:=.r 17
abbrev fW:PE:=.r 18
abbrev gY:PE:=.r 19
abbrev dU:PE:=.r 20
abbrev iP:PE:=.r 21
abbrev vq:PE:=.r 22
abbrev eF:PE:=.r 23
abbrev lh:PE:=.r 24
abbrev dV:PE:=.r 25
abbrev jE:PE:=.r 26
abbrev eG:PE:=.r 27
abbrev gK:PE:=.r 28
abbrev jF:PE:=.r 29
abbrev jG:PE:=.r 30
abbrev lj:PE:=.r 31
abbrev kE:PE:=.r 32
abbrev nG:PE:=.r 33
abbrev Fw:PE:=.r 34
abbrev nH:PE:=.r 35
abbrev jH:PE:=.r 36
abbrev lR:PE:=.r 37
abbrev jd:PE:=.r 38
abbrev yg:PE:=.r 39
abbrev lS:PE:=.r 40
abbrev mH:PE:=.r 41
abbrev r42:PE:=.r 42
abbrev rz:PE:=.r 43
abbrev yh:PE:=.r 44
abbrev ll:PE:=.r 45
abbrev Fx:PE:=.r 46
abbrev BK:PE:=.r 47
abbrev ln:PE:=.r 48
abbrev mI:PE:=.r 49
abbrev gZ:PE:=.r 50
abbrev mJ:PE:=.r 51
abbrev tJ:PE:=.r 52
abbrev Me:PE:=.r 53
abbrev ql:PE:=.r 54
abbrev vt:PE:=.r 55
abbrev rA:PE:=.r 56
abbrev BL:PE:=.r 57
abbrev BM:PE:=.r 58
abbrev r59:PE:=.r 59
abbrev tK:PE:=.r 60
abbrev vu:PE:=.r 61
abbrev kF:PE:=.r 62
abbrev yi:PE:=.r 63
abbrev kG:PE:=.r 64
abbrev vw:PE:=.r 65
abbrev Mf:PE:=.r 66
abbrev rB:PE:=.r 67
abbrev Fy:PE:=.r 68
abbrev tL:PE:=.r 69
abbrev r70:PE:=.r 70
abbrev yj:PE:=.r 72
abbrev rC:PE:=.r 73
abbrev TI:PE:=.r 74
abbrev Fz:PE:=.r 75
abbrev tM:PE:=.r 76
abbrev TJ:PE:=.r 77
abbrev r78:PE:=.r 78
abbrev r79:PE:=.r 79
abbrev qm:PE:=.r 80
abbrev yk:PE:=.r 81
abbrev lq:PE:=.r 82
abbrev r84:PE:=.r 84
abbrev FA:PE:=.r 85
abbrev TK:PE:=.r 86
abbrev r87:PE:=.r 87
abbrev Mg:PE:=.r 88
abbrev r89:PE:=.r 89
abbrev r90:PE:=.r 90
abbrev TL:PE:=.r 91
abbrev TM:PE:=.r 92
abbrev Mh:PE:=.r 93
abbrev r94:PE:=.r 94
abbrev r95:PE:=.r 95
abbrev Mi:PE:=.r 96
abbrev TN:PE:=.r 97
abbrev r98:PE:=.r 98
abbrev r99:PE:=.r 99
abbrev agA:PE:=.r 103
abbrev auQ:PE:=.r 104
abbrev TC:PE:=.r 106
abbrev Fu:PE:=.r 108
abbrev auR:PE:=.r 109
abbrev Fv:PE:=.r 112
abbrev agB:PE:=.r 113
abbrev agC:PE:=.r 119
abbrev agE:PE:=.r 120
abbrev auW:PE:=.r 121
abbrev agF:PE:=.r 126
abbrev TD:PE:=.r 127
abbrev o0:PE:=.o 0
abbrev o1:PE:=.o 1
abbrev o2:PE:=.o 2
abbrev o3:PE:=.o 3
abbrev o4:PE:=.o 4
abbrev o5:PE:=.o 5
abbrev o6:PE:=.o 6
abbrev o7:PE:=.o 7
abbrev o8:PE:=.o 8
abbrev o9:PE:=.o 9
abbrev bY:PE:=.o 10
abbrev nz:PE:=.o 11
abbrev vh:PE:=.o 12
abbrev RI:PE:=.o 13
abbrev Lh:PE:=.o 16
abbrev cj:PE:=.o 17
abbrev ba:PE:=.o 19
abbrev vi:PE:=.o 20
abbrev o21:PE:=.o 21
abbrev o22:PE:=.o 22
abbrev Bp:PE:=.o 45
end Cx
namespace Rm
open Go Cx
abbrev str (b:ByteArray):D:=.v (.string b)
def strs (l:List ByteArray):D:=.list (l.map str)
@[simp] theorem awA (l:List ByteArray):(strs l).l=l.map str:=_root_.id rfl
theorem str_inv {d:D}(h:DTy .str d):∃b,d=str b:=by
 cases h with
 |str b=>exact⟨b,rfl⟩
 |other t d h=>exact h.elim
theorem awz {d:D}(h:DTy (.slice .str) d):∃l:List ByteArray,d=strs l∧l.length≤maxLen:=by
 obtain⟨xs,rfl,hm,hx⟩:=h.slice_inv;obtain⟨l,rfl,hl⟩:=kz (enc:=str) (P:=fun _=>True) fun x hh=>(str_inv (hx x hh)).imp fun b hb=>⟨hb,trivial⟩
 exact⟨l,rfl,by simpa using hm⟩
@[simp] theorem aC6 (t:Tm):(di t).cells=[.int t.op,.int t.n,.list (t.args.map di)]:=by rw[DB];rfl
@[simp] theorem aC7 (t:Tm):D.agg [.int t.op,.int t.n,.list (t.args.map di)]=di t:=(DB t).symm
@[simp] theorem aC3 (t:Tm):(di t).c 0=.int t.op:=by rw[DB];rfl
@[simp] theorem aC4 (t:Tm):(di t).c 1=.int t.n:=by rw[DB];rfl
@[simp] theorem aC5 (t:Tm):(di t).c 2=.list (t.args.map di):=by rw[DB];rfl
structure City where
 name:ByteArray
 order:Int
 currency:Int
 rest:List Int
 feasts:List Int
 shut:List Int
 deriving Inhabited
def fm (x:City):D:=.agg [str x.name,.int x.order,.int x.currency,ints x.rest,ints x.feasts,ints x.shut]
@[simp] theorem aBp (x:City):(fm x).cells=[str x.name,.int x.order,.int x.currency,ints x.rest,ints x.feasts,ints x.shut]:=_root_.id rfl
@[simp] theorem aGf (x:City):D.agg [str x.name,.int x.order,.int x.currency,ints x.rest,ints x.feasts,ints x.shut]=fm x:=_root_.id rfl
@[simp] theorem aDq (x:City):kg 6 (fm x)=fm x:=_root_.id rfl
@[simp] theorem aBj (x:City):(fm x).c 0=str x.name:=_root_.id rfl
@[simp] theorem aBk (x:City):(fm x).c 1=.int x.order:=_root_.id rfl
@[simp] theorem aBl (x:City):(fm x).c 2=.int x.currency:=_root_.id rfl
@[simp] theorem aBm (x:City):(fm x).c 3=ints x.rest:=_root_.id rfl
@[simp] theorem aBn (x:City):(fm x).c 4=ints x.feasts:=_root_.id rfl
@[simp] theorem aBo (x:City):(fm x).c 5=ints x.shut:=_root_.id rfl
def mg (l:List City):D:=.list (l.map fm)
@[simp] theorem aDS (l:List City):(mg l).l=l.map fm:=_root_.id rfl
abbrev X6:Ty:=.agg [.str,.int .i64,.int .i64,.slice (.int .i64),.slice (.int .i64),.slice (.int .i64)]
def City.OK (x:City):Prop:=aW x.order∧aW x.currency∧(x.rest.length≤maxLen∧∀y,y∈x.rest→aW y)∧(x.feasts.length≤maxLen∧∀y,y∈x.feasts→aW y)∧(x.shut.length≤maxLen∧∀y,y∈x.shut→aW y)
theorem akK {d:D}(h:DTy X6 d):∃x:City,d=fm x∧x.OK:=by
 obtain⟨ds,rfl,hs⟩:=h.agg_inv;obtain⟨d0,ds,rfl,h0,hs⟩:=hs.cons_inv;obtain⟨d1,ds,rfl,h1,hs⟩:=hs.cons_inv;obtain⟨d2,ds,rfl,h2,hs⟩:=hs.cons_inv;obtain⟨d3,ds,rfl,h3,hs⟩:=hs.cons_inv;obtain⟨d4,ds,rfl,h4,hs⟩:=hs.cons_inv;obtain⟨d5,ds,rfl,h5,hs⟩:=hs.cons_inv;obtain rfl:=hs.nil_inv;obtain⟨n0,rfl⟩:=str_inv h0;obtain⟨n1,rfl,b1⟩:=h1.i64_inv;obtain⟨n2,rfl,b2⟩:=h2.i64_inv;obtain⟨n3,rfl,b3,c3⟩:=h3.ints_inv;obtain⟨n4,rfl,b4,c4⟩:=h4.ints_inv;obtain⟨n5,rfl,b5,c5⟩:=h5.ints_inv;exact⟨⟨n0,n1,n2,n3,n4,n5⟩,rfl,⟨b1,b2,⟨b3,c3⟩,⟨b4,c4⟩,⟨b5,c5⟩⟩⟩
theorem akM {d:D}(h:DTy (.slice X6) d):∃l:List City,d=mg l∧l.length≤maxLen∧∀y,y∈l→City.OK y:=by
 obtain⟨xs,rfl,hm,hx⟩:=h.slice_inv;obtain⟨l,rfl,hl⟩:=kz (enc:=fm) (P:=City.OK) fun x hh=>akK (hx x hh);exact⟨l,rfl,by simpa using hm,hl⟩
structure Firm where
 name:ByteArray
 city:Int
 group:Int
 deriving Inhabited
def sB (x:Firm):D:=.agg [str x.name,.int x.city,.int x.group]
@[simp] theorem aCg (x:Firm):(sB x).cells=[str x.name,.int x.city,.int x.group]:=_root_.id rfl
@[simp] theorem aGj (x:Firm):D.agg [str x.name,.int x.city,.int x.group]=sB x:=_root_.id rfl
@[simp] theorem aCd (x:Firm):(sB x).c 0=str x.name:=_root_.id rfl
@[simp] theorem aCe (x:Firm):(sB x).c 1=.int x.city:=_root_.id rfl
@[simp] theorem aCf (x:Firm):(sB x).c 2=.int x.group:=_root_.id rfl
def firms (l:List Firm):D:=.list (l.map sB)
@[simp] theorem aE4 (l:List Firm):(firms l).l=l.map sB:=_root_.id rfl
abbrev X8:Ty:=.agg [.str,.int .i64,.int .i64]
def Firm.OK (x:Firm):Prop:=aW x.city∧aW x.group
theorem amq {d:D}(h:DTy X8 d):∃x:Firm,d=sB x∧x.OK:=by
 obtain⟨ds,rfl,hs⟩:=h.agg_inv;obtain⟨d0,ds,rfl,h0,hs⟩:=hs.cons_inv;obtain⟨d1,ds,rfl,h1,hs⟩:=hs.cons_inv;obtain⟨d2,ds,rfl,h2,hs⟩:=hs.cons_inv;obtain rfl:=hs.nil_inv;obtain⟨n0,rfl⟩:=str_inv h0;obtain⟨n1,rfl,b1⟩:=h1.i64_inv;obtain⟨n2,rfl,b2⟩:=h2.i64_inv;exact⟨⟨n0,n1,n2⟩,rfl,⟨b1,b2⟩⟩
theorem amr {d:D}(h:DTy (.slice X8) d):∃l:List Firm,d=firms l∧l.length≤maxLen∧∀y,y∈l→Firm.OK y:=by
 obtain⟨xs,rfl,hm,hx⟩:=h.slice_inv;obtain⟨l,rfl,hl⟩:=kz (enc:=sB) (P:=Firm.OK) fun x hh=>amq (hx x hh);exact⟨l,rfl,by simpa using hm,hl⟩
structure Group where
 grade:Int
 deriving DecidableEq,Inhabited
def wJ (x:Group):D:=.agg [.int x.grade]
@[simp] theorem aCi (x:Group):(wJ x).cells=[.int x.grade]:=_root_.id rfl
@[simp] theorem aGk (x:Group):D.agg [.int x.grade]=wJ x:=_root_.id rfl
@[simp] theorem aCh (x:Group):(wJ x).c 0=.int x.grade:=_root_.id rfl
def groups (l:List Group):D:=.list (l.map wJ)
@[simp] theorem aFc (l:List Group):(groups l).l=l.map wJ:=_root_.id rfl
abbrev X9:Ty:=.agg [.int .i64]
def Group.OK (x:Group):Prop:=aW x.grade
theorem anR {d:D}(h:DTy X9 d):∃x:Group,d=wJ x∧x.OK:=by
 obtain⟨ds,rfl,hs⟩:=h.agg_inv;obtain⟨d0,ds,rfl,h0,hs⟩:=hs.cons_inv;obtain rfl:=hs.nil_inv;obtain⟨n0,rfl,b0⟩:=h0.i64_inv;exact⟨⟨n0⟩,rfl,b0⟩
theorem anS {d:D}(h:DTy (.slice X9) d):∃l:List Group,d=groups l∧l.length≤maxLen∧∀y,y∈l→Group.OK y:=by
 obtain⟨xs,rfl,hm,hx⟩:=h.slice_inv;obtain⟨l,rfl,hl⟩:=kz (enc:=wJ) (P:=Group.OK) fun x hh=>anR (hx x hh);exact⟨l,rfl,by simpa using hm,hl⟩
structure Usance where
 fr:Int
 to:Int
 days:Int
 deriving DecidableEq,Inhabited
def sE (x:Usance):D:=.agg [.int x.fr,.int x.to,.int x.days]
@[simp] theorem aDg (x:Usance):(sE x).cells=[.int x.fr,.int x.to,.int x.days]:=_root_.id rfl
@[simp] theorem aGv (x:Usance):D.agg [.int x.fr,.int x.to,.int x.days]=sE x:=_root_.id rfl
@[simp] theorem aDd (x:Usance):(sE x).c 0=.int x.fr:=_root_.id rfl
@[simp] theorem aDe (x:Usance):(sE x).c 1=.int x.to:=_root_.id rfl
@[simp] theorem aDf (x:Usance):(sE x).c 2=.int x.days:=_root_.id rfl
def usances (l:List Usance):D:=.list (l.map sE)
@[simp] theorem aHv (l:List Usance):(usances l).l=l.map sE:=_root_.id rfl
abbrev Yf:Ty:=.agg [.int .i64,.int .i64,.int .i64]
def Usance.OK (x:Usance):Prop:=aW x.fr∧aW x.to∧aW x.days
theorem aAa {d:D}(h:DTy Yf d):∃x:Usance,d=sE x∧x.OK:=by
 obtain⟨ds,rfl,hs⟩:=h.agg_inv;obtain⟨d0,ds,rfl,h0,hs⟩:=hs.cons_inv;obtain⟨d1,ds,rfl,h1,hs⟩:=hs.cons_inv;obtain⟨d2,ds,rfl,h2,hs⟩:=hs.cons_inv;obtain rfl:=hs.nil_inv;obtain⟨n0,rfl,b0⟩:=h0.i64_inv;obtain⟨n1,rfl,b1⟩:=h1.i64_inv;obtain⟨n2,rfl,b2⟩:=h2.i64_inv;exact⟨⟨n0,n1,n2⟩,rfl,⟨b0,b1,b2⟩⟩
theorem aAb {d:D}(h:DTy (.slice Yf) d):∃l:List Usance,d=usances l∧l.length≤maxLen∧∀y,y∈l→Usance.OK y:=by
 obtain⟨xs,rfl,hm,hx⟩:=h.slice_inv;obtain⟨l,rfl,hl⟩:=kz (enc:=sE) (P:=Usance.OK) fun x hh=>aAa (hx x hh);exact⟨l,rfl,by simpa using hm,hl⟩
structure Rate where
 fr:Int
 to:Int
 num:Int
 den:Int
 since:Int
 deriving DecidableEq,Inhabited
def pD (x:Rate):D:=.agg [.int x.fr,.int x.to,.int x.num,.int x.den,.int x.since]
@[simp] theorem aCC (x:Rate):(pD x).cells=[.int x.fr,.int x.to,.int x.num,.int x.den,.int x.since]:=_root_.id rfl
@[simp] theorem aGo (x:Rate):D.agg [.int x.fr,.int x.to,.int x.num,.int x.den,.int x.since]=pD x:=_root_.id rfl
@[simp] theorem aCx (x:Rate):(pD x).c 0=.int x.fr:=_root_.id rfl
@[simp] theorem aCy (x:Rate):(pD x).c 1=.int x.to:=_root_.id rfl
@[simp] theorem aCz (x:Rate):(pD x).c 2=.int x.num:=_root_.id rfl
@[simp] theorem aCA (x:Rate):(pD x).c 3=.int x.den:=_root_.id rfl
@[simp] theorem aCB (x:Rate):(pD x).c 4=.int x.since:=_root_.id rfl
def rates (l:List Rate):D:=.list (l.map pD)
@[simp] theorem aGR (l:List Rate):(rates l).l=l.map pD:=_root_.id rfl
abbrev Yc:Ty:=.agg [.int .i64,.int .i64,.int .i64,.int .i64,.int .i64]
def Rate.OK (x:Rate):Prop:=aW x.fr∧aW x.to∧aW x.num∧aW x.den∧aW x.since
theorem avu {d:D}(h:DTy Yc d):∃x:Rate,d=pD x∧x.OK:=by
 obtain⟨ds,rfl,hs⟩:=h.agg_inv;obtain⟨d0,ds,rfl,h0,hs⟩:=hs.cons_inv;obtain⟨d1,ds,rfl,h1,hs⟩:=hs.cons_inv;obtain⟨d2,ds,rfl,h2,hs⟩:=hs.cons_inv;obtain⟨d3,ds,rfl,h3,hs⟩:=hs.cons_inv;obtain⟨d4,ds,rfl,h4,hs⟩:=hs.cons_inv;obtain rfl:=hs.nil_inv;obtain⟨n0,rfl,b0⟩:=h0.i64_inv;obtain⟨n1,rfl,b1⟩:=h1.i64_inv;obtain⟨n2,rfl,b2⟩:=h2.i64_inv;obtain⟨n3,rfl,b3⟩:=h3.i64_inv;obtain⟨n4,rfl,b4⟩:=h4.i64_inv;exact⟨⟨n0,n1,n2,n3,n4⟩,rfl,⟨b0,b1,b2,b3,b4⟩⟩
theorem avv {d:D}(h:DTy (.slice Yc) d):∃l:List Rate,d=rates l∧l.length≤maxLen∧∀y,y∈l→Rate.OK y:=by
 obtain⟨xs,rfl,hm,hx⟩:=h.slice_inv;obtain⟨l,rfl,hl⟩:=kz (enc:=pD) (P:=Rate.OK) fun x hh=>avu (hx x hh);exact⟨l,rfl,by simpa using hm,hl⟩
structure Halt where
 order:Int
 fr:Int
 to:Int
 deriving DecidableEq,Inhabited
def sC (x:Halt):D:=.agg [.int x.order,.int x.fr,.int x.to]
@[simp] theorem aCm (x:Halt):(sC x).cells=[.int x.order,.int x.fr,.int x.to]:=_root_.id rfl
@[simp] theorem aGl (x:Halt):D.agg [.int x.order,.int x.fr,.int x.to]=sC x:=_root_.id rfl
@[simp] theorem aCj (x:Halt):(sC x).c 0=.int x.order:=_root_.id rfl
@[simp] theorem aCk (x:Halt):(sC x).c 1=.int x.fr:=_root_.id rfl
@[simp] theorem aCl (x:Halt):(sC x).c 2=.int x.to:=_root_.id rfl
def halts (l:List Halt):D:=.list (l.map sC)
@[simp] theorem aFn (l:List Halt):(halts l).l=l.map sC:=_root_.id rfl
abbrev Ya:Ty:=.agg [.int .i64,.int .i64,.int .i64]
def Halt.OK (x:Halt):Prop:=aW x.order∧aW x.fr∧aW x.to
theorem aol {d:D}(h:DTy Ya d):∃x:Halt,d=sC x∧x.OK:=by
 obtain⟨ds,rfl,hs⟩:=h.agg_inv;obtain⟨d0,ds,rfl,h0,hs⟩:=hs.cons_inv;obtain⟨d1,ds,rfl,h1,hs⟩:=hs.cons_inv;obtain⟨d2,ds,rfl,h2,hs⟩:=hs.cons_inv;obtain rfl:=hs.nil_inv;obtain⟨n0,rfl,b0⟩:=h0.i64_inv;obtain⟨n1,rfl,b1⟩:=h1.i64_inv;obtain⟨n2,rfl,b2⟩:=h2.i64_inv;exact⟨⟨n0,n1,n2⟩,rfl,⟨b0,b1,b2⟩⟩
theorem aom {d:D}(h:DTy (.slice Ya) d):∃l:List Halt,d=halts l∧l.length≤maxLen∧∀y,y∈l→Halt.OK y:=by
 obtain⟨xs,rfl,hm,hx⟩:=h.slice_inv;obtain⟨l,rfl,hl⟩:=kz (enc:=sC) (P:=Halt.OK) fun x hh=>aol (hx x hh);exact⟨l,rfl,by simpa using hm,hl⟩
structure Choice where
 ask:Int
 by_:Int
 whole:Bool
 deriving DecidableEq,Inhabited
def sy (x:Choice):D:=.agg [.int x.ask,.int x.by_,.bool x.whole]
@[simp] theorem aBi (x:Choice):(sy x).cells=[.int x.ask,.int x.by_,.bool x.whole]:=_root_.id rfl
@[simp] theorem aGe (x:Choice):D.agg [.int x.ask,.int x.by_,.bool x.whole]=sy x:=_root_.id rfl
@[simp] theorem aBg (x:Choice):(sy x).c 0=.int x.ask:=_root_.id rfl
@[simp] theorem aBh (x:Choice):(sy x).c 1=.int x.by_:=_root_.id rfl
def choices (l:List Choice):D:=.list (l.map sy)
@[simp] theorem aDR (l:List Choice):(choices l).l=l.map sy:=_root_.id rfl
abbrev X5:Ty:=.agg [.int .i64,.int .i64,.bool]
def Choice.OK (x:Choice):Prop:=aW x.ask∧aW x.by_
theorem akH {d:D}(h:DTy X5 d):∃x:Choice,d=sy x∧x.OK:=by
 obtain⟨ds,rfl,hs⟩:=h.agg_inv;obtain⟨d0,ds,rfl,h0,hs⟩:=hs.cons_inv;obtain⟨d1,ds,rfl,h1,hs⟩:=hs.cons_inv;obtain⟨d2,ds,rfl,h2,hs⟩:=hs.cons_inv;obtain rfl:=hs.nil_inv;obtain⟨n0,rfl,b0⟩:=h0.i64_inv;obtain⟨n1,rfl,b1⟩:=h1.i64_inv;obtain⟨n2,rfl⟩:=h2.bool_inv;exact⟨⟨n0,n1,n2⟩,rfl,⟨b0,b1⟩⟩
theorem akI {d:D}(h:DTy (.slice X5) d):∃l:List Choice,d=choices l∧l.length≤maxLen∧∀y,y∈l→Choice.OK y:=by
 obtain⟨xs,rfl,hm,hx⟩:=h.slice_inv;obtain⟨l,rfl,hl⟩:=kz (enc:=sy) (P:=Choice.OK) fun x hh=>akH (hx x hh);exact⟨l,rfl,by simpa using hm,hl⟩
structure Rule where
 ask:Int
 term:Tm
 deriving Inhabited
def sD (x:Rule):D:=.agg [.int x.ask,.int x.term.op,.int x.term.n,.list (x.term.args.map di)]
@[simp] theorem aCN (x:Rule):(sD x).cells=[.int x.ask,.int x.term.op,.int x.term.n,.list (x.term.args.map di)]:=_root_.id rfl
@[simp] theorem aGq (x:Rule):D.agg [.int x.ask,.int x.term.op,.int x.term.n,.list (x.term.args.map di)]=sD x:=_root_.id rfl
@[simp] theorem aCM (x:Rule):(sD x).c 0=.int x.ask:=_root_.id rfl
def rules (l:List Rule):D:=.list (l.map sD)
@[simp] theorem aGW (l:List Rule):(rules l).l=l.map sD:=_root_.id rfl
abbrev Yd:Ty:=.agg [.int .i64,.int .i64,.int .i64,.slice .trm]
def Rule.OK (x:Rule):Prop:=aW x.ask∧Tm.OK x.term
theorem av0 {d:D}(h:DTy Yd d):∃x:Rule,d=sD x∧x.OK:=by
 obtain⟨ds,rfl,hs⟩:=h.agg_inv;obtain⟨d0,ds,rfl,h0,hs⟩:=hs.cons_inv;obtain⟨d1,ds,rfl,h1,hs⟩:=hs.cons_inv;obtain⟨d2,ds,rfl,h2,hs⟩:=hs.cons_inv;obtain⟨d3,ds,rfl,h3,hs⟩:=hs.cons_inv;obtain rfl:=hs.nil_inv;obtain⟨n0,rfl,b0⟩:=h0.i64_inv;obtain⟨n1,rfl,b1⟩:=h1.i64_inv;obtain⟨n2,rfl,b2⟩:=h2.i64_inv;obtain⟨n3,rfl,b3,c3⟩:=h3.trms_inv;exact⟨⟨n0,.mk n1 n2 n3⟩,rfl,⟨b0,.mk _ _ _ b1 b2 b3 c3⟩⟩
theorem av1 {d:D}(h:DTy (.slice Yd) d):∃l:List Rule,d=rules l∧l.length≤maxLen∧∀y,y∈l→Rule.OK y:=by
 obtain⟨xs,rfl,hm,hx⟩:=h.slice_inv;obtain⟨l,rfl,hl⟩:=kz (enc:=sD) (P:=Rule.OK) fun x hh=>av0 (hx x hh);exact⟨l,rfl,by simpa using hm,hl⟩
structure Order where
 name:ByteArray
 accepts:Bool
 choices:List Choice
 rules:List Rule
 deriving Inhabited
def gT (x:Order):D:=.agg [str x.name,.bool x.accepts,choices x.choices,rules x.rules]
@[simp] theorem aCw (x:Order):(gT x).cells=[str x.name,.bool x.accepts,choices x.choices,rules x.rules]:=_root_.id rfl
@[simp] theorem aGn (x:Order):D.agg [str x.name,.bool x.accepts,choices x.choices,rules x.rules]=gT x:=_root_.id rfl
@[simp] theorem aDt (x:Order):kg 4 (gT x)=gT x:=_root_.id rfl
@[simp] theorem aCs (x:Order):(gT x).c 0=str x.name:=_root_.id rfl
@[simp] theorem aCt (x:Order):(gT x).c 1=.bool x.accepts:=_root_.id rfl
@[simp] theorem aCu (x:Order):(gT x).c 2=choices x.choices:=_root_.id rfl
@[simp] theorem aCv (x:Order):(gT x).c 3=rules x.rules:=_root_.id rfl
def orders (l:List Order):D:=.list (l.map gT)
@[simp] theorem aGB (l:List Order):(orders l).l=l.map gT:=_root_.id rfl
abbrev Yb:Ty:=.agg [.str,.bool,.slice X5,.slice Yd]
def Order.OK (x:Order):Prop:=(x.choices.length≤maxLen∧∀y,y∈x.choices→Choice.OK y)∧(x.rules.length≤maxLen∧∀y,y∈x.rules→Rule.OK y)
theorem at7 {d:D}(h:DTy Yb d):∃x:Order,d=gT x∧x.OK:=by
 obtain⟨ds,rfl,hs⟩:=h.agg_inv;obtain⟨d0,ds,rfl,h0,hs⟩:=hs.cons_inv;obtain⟨d1,ds,rfl,h1,hs⟩:=hs.cons_inv;obtain⟨d2,ds,rfl,h2,hs⟩:=hs.cons_inv;obtain⟨d3,ds,rfl,h3,hs⟩:=hs.cons_inv;obtain rfl:=hs.nil_inv;obtain⟨n0,rfl⟩:=str_inv h0;obtain⟨n1,rfl⟩:=h1.bool_inv;obtain⟨n2,rfl,b2,c2⟩:=akI h2;obtain⟨n3,rfl,b3,c3⟩:=av1 h3;exact⟨⟨n0,n1,n2,n3⟩,rfl,⟨⟨b2,c2⟩,⟨b3,c3⟩⟩⟩
theorem aua {d:D}(h:DTy (.slice Yb) d):∃l:List Order,d=orders l∧l.length≤maxLen∧∀y,y∈l→Order.OK y:=by
 obtain⟨xs,rfl,hm,hx⟩:=h.slice_inv;obtain⟨l,rfl,hl⟩:=kz (enc:=gT) (P:=Order.OK) fun x hh=>at7 (hx x hh);exact⟨l,rfl,by simpa using hm,hl⟩
structure Realm where
 currencies:List ByteArray
 cities:List City
 groups:List Group
 firms:List Firm
 orders:List Order
 usances:List Usance
 rates:List Rate
 halts:List Halt
 deriving Inhabited
def aQ (x:Realm):D:=.agg [strs x.currencies,mg x.cities,groups x.groups,firms x.firms,orders x.orders,usances x.usances,rates x.rates,halts x.halts]
@[simp] theorem aCL (x:Realm):(aQ x).cells=[strs x.currencies,mg x.cities,groups x.groups,firms x.firms,orders x.orders,usances x.usances,rates x.rates,halts x.halts]:=_root_.id rfl
@[simp] theorem aGp (x:Realm):D.agg [strs x.currencies,mg x.cities,groups x.groups,firms x.firms,orders x.orders,usances x.usances,rates x.rates,halts x.halts]=aQ x:=_root_.id rfl
@[simp] theorem aDu (x:Realm):kg 8 (aQ x)=aQ x:=_root_.id rfl
@[simp] theorem aGI (x:Realm)(a0 a1 a2 a3 a4 a5 a6 a7:D):D.agg (dm [a0,a1,a2,a3,a4,a5,a6,a7] 0 [strs x.currencies,mg x.cities,groups x.groups,firms x.firms,orders x.orders,usances x.usances,rates x.rates,halts x.halts])=aQ x:=_root_.id rfl
@[simp] theorem aCD (x:Realm):(aQ x).c 0=strs x.currencies:=_root_.id rfl
@[simp] theorem aCE (x:Realm):(aQ x).c 1=mg x.cities:=_root_.id rfl
@[simp] theorem aCF (x:Realm):(aQ x).c 2=groups x.groups:=_root_.id rfl
@[simp] theorem aCG (x:Realm):(aQ x).c 3=firms x.firms:=_root_.id rfl
@[simp] theorem aCH (x:Realm):(aQ x).c 4=orders x.orders:=_root_.id rfl
@[simp] theorem aCI (x:Realm):(aQ x).c 5=usances x.usances:=_root_.id rfl
@[simp] theorem aCJ (x:Realm):(aQ x).c 6=rates x.rates:=_root_.id rfl
@[simp] theorem aCK (x:Realm):(aQ x).c 7=halts x.halts:=_root_.id rfl
abbrev az0:Ty:=.agg [.slice .str,.slice X6,.slice X9,.slice X8,.slice Yb,.slice Yf,.slice Yc,.slice Ya]
def Realm.OK (x:Realm):Prop:=x.currencies.length≤maxLen∧(x.cities.length≤maxLen∧∀y,y∈x.cities→City.OK y)∧(x.groups.length≤maxLen∧∀y,y∈x.groups→Group.OK y)∧(x.firms.length≤maxLen∧∀y,y∈x.firms→Firm.OK y)∧(x.orders.length≤maxLen∧∀y,y∈x.orders→Order.OK y)∧(x.usances.length≤maxLen∧∀y,y∈x.usances→Usance.OK y)∧(x.rates.length≤maxLen∧∀y,y∈x.rates→Rate.OK y)∧(x.halts.length≤maxLen∧∀y,y∈x.halts→Halt.OK y)
theorem avF {d:D}(h:DTy az0 d):∃x:Realm,d=aQ x∧x.OK:=by
 obtain⟨ds,rfl,hs⟩:=h.agg_inv;obtain⟨d0,ds,rfl,h0,hs⟩:=hs.cons_inv;obtain⟨d1,ds,rfl,h1,hs⟩:=hs.cons_inv;obtain⟨d2,ds,rfl,h2,hs⟩:=hs.cons_inv;obtain⟨d3,ds,rfl,h3,hs⟩:=hs.cons_inv;obtain⟨d4,ds,rfl,h4,hs⟩:=hs.cons_inv;obtain⟨d5,ds,rfl,h5,hs⟩:=hs.cons_inv;obtain⟨d6,ds,rfl,h6,hs⟩:=hs.cons_inv;obtain⟨d7,ds,rfl,h7,hs⟩:=hs.cons_inv;obtain rfl:=hs.nil_inv;obtain⟨n0,rfl,b0⟩:=awz h0;obtain⟨n1,rfl,b1,c1⟩:=akM h1;obtain⟨n2,rfl,b2,c2⟩:=anS h2;obtain⟨n3,rfl,b3,c3⟩:=amr h3;obtain⟨n4,rfl,b4,c4⟩:=aua h4;obtain⟨n5,rfl,b5,c5⟩:=aAb h5;obtain⟨n6,rfl,b6,c6⟩:=avv h6;obtain⟨n7,rfl,b7,c7⟩:=aom h7;exact⟨⟨n0,n1,n2,n3,n4,n5,n6,n7⟩,rfl,⟨b0,⟨b1,c1⟩,⟨b2,c2⟩,⟨b3,c3⟩,⟨b4,c4⟩,⟨b5,c5⟩,⟨b6,c6⟩,⟨b7,c7⟩⟩⟩
structure Tenor where
 kind:Int
 n:Int
 unit:Int
 deriving DecidableEq,Inhabited
def jS (x:Tenor):D:=.agg [.int x.kind,.int x.n,.int x.unit]
@[simp] theorem aDb (x:Tenor):(jS x).cells=[.int x.kind,.int x.n,.int x.unit]:=_root_.id rfl
@[simp] theorem aGu (x:Tenor):D.agg [.int x.kind,.int x.n,.int x.unit]=jS x:=_root_.id rfl
@[simp] theorem aC8 (x:Tenor):(jS x).c 0=.int x.kind:=_root_.id rfl
@[simp] theorem aC9 (x:Tenor):(jS x).c 1=.int x.n:=_root_.id rfl
@[simp] theorem aDa (x:Tenor):(jS x).c 2=.int x.unit:=_root_.id rfl
def Tenor.OK (x:Tenor):Prop:=aW x.kind∧aW x.n∧aW x.unit
structure Bill where
 drawer:Int
 drawee:Int
 payee:Int
 sum:Int
 currency:Int
 tenor:Tenor
 day:Int
 city:Int
 pay:Int
 need:Int
 rate:Int
 flags:Int
 parts:Int
 deriving DecidableEq,Inhabited
def db (x:Bill):D:=.agg [.int x.drawer,.int x.drawee,.int x.payee,.int x.sum,.int x.currency,.int x.tenor.kind,.int x.tenor.n,.int x.tenor.unit,.int x.day,.int x.city,.int x.pay,.int x.need,.int x.rate,.int x.flags,.int x.parts]
@[simp] theorem aA3 (x:Bill):(db x).cells=[.int x.drawer,.int x.drawee,.int x.payee,.int x.sum,.int x.currency,.int x.tenor.kind,.int x.tenor.n,.int x.tenor.unit,.int x.day,.int x.city,.int x.pay,.int x.need,.int x.rate,.int x.flags,.int x.parts]:=_root_.id rfl
@[simp] theorem aGb (x:Bill):D.agg [.int x.drawer,.int x.drawee,.int x.payee,.int x.sum,.int x.currency,.int x.tenor.kind,.int x.tenor.n,.int x.tenor.unit,.int x.day,.int x.city,.int x.pay,.int x.need,.int x.rate,.int x.flags,.int x.parts]=db x:=_root_.id rfl
@[simp] theorem aDp (x:Bill):kg 15 (db x)=db x:=_root_.id rfl
@[simp] theorem aGC (x:Bill)(a0 a1 a2 a3 a4 a5 a6 a7 a8 a9 gy ib ic ij il:D):D.agg (dm [a0,a1,a2,a3,a4,a5,a6,a7,a8,a9,gy,ib,ic,ij,il] 0 [.int x.drawer,.int x.drawee,.int x.payee,.int x.sum,.int x.currency,.int x.tenor.kind,.int x.tenor.n,.int x.tenor.unit,.int x.day,.int x.city,.int x.pay,.int x.need,.int x.rate,.int x.flags,.int x.parts])=db x:=_root_.id rfl
@[simp] theorem aAO (x:Bill):(db x).c 0=.int x.drawer:=_root_.id rfl
@[simp] theorem aAP (x:Bill):(db x).c 1=.int x.drawee:=_root_.id rfl
@[simp] theorem aAV (x:Bill):(db x).c 2=.int x.payee:=_root_.id rfl
@[simp] theorem aAW (x:Bill):(db x).c 3=.int x.sum:=_root_.id rfl
@[simp] theorem aAX (x:Bill):(db x).c 4=.int x.currency:=_root_.id rfl
@[simp] theorem aAY (x:Bill):(db x).c 5=.int x.tenor.kind:=_root_.id rfl
@[simp] theorem aAZ (x:Bill):(db x).c 6=.int x.tenor.n:=_root_.id rfl
@[simp] theorem aA0 (x:Bill):(db x).c 7=.int x.tenor.unit:=_root_.id rfl
@[simp] theorem aA1 (x:Bill):(db x).c 8=.int x.day:=_root_.id rfl
@[simp] theorem aA2 (x:Bill):(db x).c 9=.int x.city:=_root_.id rfl
@[simp] theorem aAQ (x:Bill):(db x).c 10=.int x.pay:=_root_.id rfl
@[simp] theorem aAR (x:Bill):(db x).c 11=.int x.need:=_root_.id rfl
@[simp] theorem aAS (x:Bill):(db x).c 12=.int x.rate:=_root_.id rfl
@[simp] theorem aAT (x:Bill):(db x).c 13=.int x.flags:=_root_.id rfl
@[simp] theorem aAU (x:Bill):(db x).c 14=.int x.parts:=_root_.id rfl
def Bill.OK (x:Bill):Prop:=aW x.drawer∧aW x.drawee∧aW x.payee∧aW x.sum∧aW x.currency∧Tenor.OK x.tenor∧aW x.day∧aW x.city∧aW x.pay∧aW x.need∧aW x.rate∧aW x.flags∧aW x.parts
structure Sign where
 kind:Int
 part:Int
 who:Int
 for_:Int
 to:Int
 sum:Int
 day:Int
 city:Int
 flags:Int
 deriving DecidableEq,Inhabited
def kj (x:Sign):D:=.agg [.int x.kind,.int x.part,.int x.who,.int x.for_,.int x.to,.int x.sum,.int x.day,.int x.city,.int x.flags]
@[simp] theorem aC2 (x:Sign):(kj x).cells=[.int x.kind,.int x.part,.int x.who,.int x.for_,.int x.to,.int x.sum,.int x.day,.int x.city,.int x.flags]:=_root_.id rfl
@[simp] theorem aGt (x:Sign):D.agg [.int x.kind,.int x.part,.int x.who,.int x.for_,.int x.to,.int x.sum,.int x.day,.int x.city,.int x.flags]=kj x:=_root_.id rfl
@[simp] theorem aDw (x:Sign):kg 9 (kj x)=kj x:=_root_.id rfl
@[simp] theorem aCT (x:Sign):(kj x).c 0=.int x.kind:=_root_.id rfl
@[simp] theorem aCU (x:Sign):(kj x).c 1=.int x.part:=_root_.id rfl
@[simp] theorem aCV (x:Sign):(kj x).c 2=.int x.who:=_root_.id rfl
@[simp] theorem aCW (x:Sign):(kj x).c 3=.int x.for_:=_root_.id rfl
@[simp] theorem aCX (x:Sign):(kj x).c 4=.int x.to:=_root_.id rfl
@[simp] theorem aCY (x:Sign):(kj x).c 5=.int x.sum:=_root_.id rfl
@[simp] theorem aCZ (x:Sign):(kj x).c 6=.int x.day:=_root_.id rfl
@[simp] theorem aC0 (x:Sign):(kj x).c 7=.int x.city:=_root_.id rfl
@[simp] theorem aC1 (x:Sign):(kj x).c 8=.int x.flags:=_root_.id rfl
def signs (l:List Sign):D:=.list (l.map kj)
@[simp] theorem aG7 (l:List Sign):(signs l).l=l.map kj:=_root_.id rfl
@[simp] theorem aG6 (l:List Sign):(signs l).cells=[signs l]:=_root_.id rfl
abbrev Ye:Ty:=.agg [.int .i64,.int .i64,.int .i64,.int .i64,.int .i64,.int .i64,.int .i64,.int .i64,.int .i64]
def Sign.OK (x:Sign):Prop:=aW x.kind∧aW x.part∧aW x.who∧aW x.for_∧aW x.to∧aW x.sum∧aW x.day∧aW x.city∧aW x.flags
theorem aws {d:D}(h:DTy Ye d):∃x:Sign,d=kj x∧x.OK:=by
 obtain⟨ds,rfl,hs⟩:=h.agg_inv;obtain⟨d0,ds,rfl,h0,hs⟩:=hs.cons_inv;obtain⟨d1,ds,rfl,h1,hs⟩:=hs.cons_inv;obtain⟨d2,ds,rfl,h2,hs⟩:=hs.cons_inv;obtain⟨d3,ds,rfl,h3,hs⟩:=hs.cons_inv;obtain⟨d4,ds,rfl,h4,hs⟩:=hs.cons_inv;obtain⟨d5,ds,rfl,h5,hs⟩:=hs.cons_inv;obtain⟨d6,ds,rfl,h6,hs⟩:=hs.cons_inv;obtain⟨d7,ds,rfl,h7,hs⟩:=hs.cons_inv;obtain⟨d8,ds,rfl,h8,hs⟩:=hs.cons_inv;obtain rfl:=hs.nil_inv;obtain⟨n0,rfl,b0⟩:=h0.i64_inv;obtain⟨n1,rfl,b1⟩:=h1.i64_inv;obtain⟨n2,rfl,b2⟩:=h2.i64_inv;obtain⟨n3,rfl,b3⟩:=h3.i64_inv;obtain⟨n4,rfl,b4⟩:=h4.i64_inv;obtain⟨n5,rfl,b5⟩:=h5.i64_inv;obtain⟨n6,rfl,b6⟩:=h6.i64_inv;obtain⟨n7,rfl,b7⟩:=h7.i64_inv;obtain⟨n8,rfl,b8⟩:=h8.i64_inv;exact⟨⟨n0,n1,n2,n3,n4,n5,n6,n7,n8⟩,rfl,⟨b0,b1,b2,b3,b4,b5,b6,b7,b8⟩⟩
theorem awt {d:D}(h:DTy (.slice Ye) d):∃l:List Sign,d=signs l∧l.length≤maxLen∧∀y,y∈l→Sign.OK y:=by
 obtain⟨xs,rfl,hm,hx⟩:=h.slice_inv;obtain⟨l,rfl,hl⟩:=kz (enc:=kj) (P:=Sign.OK) fun x hh=>aws (hx x hh);exact⟨l,rfl,by simpa using hm,hl⟩
structure Alter where
 at_:Int
 sum:Int
 deriving DecidableEq,Inhabited
def pC (x:Alter):D:=.agg [.int x.at_,.int x.sum]
@[simp] theorem aAN (x:Alter):(pC x).cells=[.int x.at_,.int x.sum]:=_root_.id rfl
@[simp] theorem aGa (x:Alter):D.agg [.int x.at_,.int x.sum]=pC x:=_root_.id rfl
@[simp] theorem aAL (x:Alter):(pC x).c 0=.int x.at_:=_root_.id rfl
@[simp] theorem aAM (x:Alter):(pC x).c 1=.int x.sum:=_root_.id rfl
def alters (l:List Alter):D:=.list (l.map pC)
@[simp] theorem aDz (l:List Alter):(alters l).l=l.map pC:=_root_.id rfl
@[simp] theorem aDy (l:List Alter):(alters l).cells=[alters l]:=_root_.id rfl
abbrev X4:Ty:=.agg [.int .i64,.int .i64]
def Alter.OK (x:Alter):Prop:=aW x.at_∧aW x.sum
theorem ajF {d:D}(h:DTy X4 d):∃x:Alter,d=pC x∧x.OK:=by
 obtain⟨ds,rfl,hs⟩:=h.agg_inv;obtain⟨d0,ds,rfl,h0,hs⟩:=hs.cons_inv;obtain⟨d1,ds,rfl,h1,hs⟩:=hs.cons_inv;obtain rfl:=hs.nil_inv;obtain⟨n0,rfl,b0⟩:=h0.i64_inv;obtain⟨n1,rfl,b1⟩:=h1.i64_inv;exact⟨⟨n0,n1⟩,rfl,⟨b0,b1⟩⟩
theorem ajG {d:D}(h:DTy (.slice X4) d):∃l:List Alter,d=alters l∧l.length≤maxLen∧∀y,y∈l→Alter.OK y:=by
 obtain⟨xs,rfl,hm,hx⟩:=h.slice_inv;obtain⟨l,rfl,hl⟩:=kz (enc:=pC) (P:=Alter.OK) fun x hh=>ajF (hx x hh);exact⟨l,rfl,by simpa using hm,hl⟩
structure Act where
 kind:Int
 who:Int
 to:Int
 part:Int
 at_:Int
 sum:Int
 day:Int
 city:Int
 form:Int
 deriving DecidableEq,Inhabited
def iW (x:Act):D:=.agg [.int x.kind,.int x.who,.int x.to,.int x.part,.int x.at_,.int x.sum,.int x.day,.int x.city,.int x.form]
@[simp] theorem aAK (x:Act):(iW x).cells=[.int x.kind,.int x.who,.int x.to,.int x.part,.int x.at_,.int x.sum,.int x.day,.int x.city,.int x.form]:=_root_.id rfl
@[simp] theorem aF9 (x:Act):D.agg [.int x.kind,.int x.who,.int x.to,.int x.part,.int x.at_,.int x.sum,.int x.day,.int x.city,.int x.form]=iW x:=_root_.id rfl
@[simp] theorem aDo (x:Act):kg 9 (iW x)=iW x:=_root_.id rfl
@[simp] theorem aAB (x:Act):(iW x).c 0=.int x.kind:=_root_.id rfl
@[simp] theorem aAC (x:Act):(iW x).c 1=.int x.who:=_root_.id rfl
@[simp] theorem aAD (x:Act):(iW x).c 2=.int x.to:=_root_.id rfl
@[simp] theorem aAE (x:Act):(iW x).c 3=.int x.part:=_root_.id rfl
@[simp] theorem aAF (x:Act):(iW x).c 4=.int x.at_:=_root_.id rfl
@[simp] theorem aAG (x:Act):(iW x).c 5=.int x.sum:=_root_.id rfl
@[simp] theorem aAH (x:Act):(iW x).c 6=.int x.day:=_root_.id rfl
@[simp] theorem aAI (x:Act):(iW x).c 7=.int x.city:=_root_.id rfl
@[simp] theorem aAJ (x:Act):(iW x).c 8=.int x.form:=_root_.id rfl
def acts (l:List Act):D:=.list (l.map iW)
@[simp] theorem aDi (l:List Act):(acts l).l=l.map iW:=_root_.id rfl
@[simp] theorem aDh (l:List Act):(acts l).cells=[acts l]:=_root_.id rfl
abbrev X3:Ty:=.agg [.int .i64,.int .i64,.int .i64,.int .i64,.int .i64,.int .i64,.int .i64,.int .i64,.int .i64]
def Act.OK (x:Act):Prop:=aW x.kind∧aW x.who∧aW x.to∧aW x.part∧aW x.at_∧aW x.sum∧aW x.day∧aW x.city∧aW x.form
theorem ajz {d:D}(h:DTy X3 d):∃x:Act,d=iW x∧x.OK:=by
 obtain⟨ds,rfl,hs⟩:=h.agg_inv;obtain⟨d0,ds,rfl,h0,hs⟩:=hs.cons_inv;obtain⟨d1,ds,rfl,h1,hs⟩:=hs.cons_inv;obtain⟨d2,ds,rfl,h2,hs⟩:=hs.cons_inv;obtain⟨d3,ds,rfl,h3,hs⟩:=hs.cons_inv;obtain⟨d4,ds,rfl,h4,hs⟩:=hs.cons_inv;obtain⟨d5,ds,rfl,h5,hs⟩:=hs.cons_inv;obtain⟨d6,ds,rfl,h6,hs⟩:=hs.cons_inv;obtain⟨d7,ds,rfl,h7,hs⟩:=hs.cons_inv;obtain⟨d8,ds,rfl,h8,hs⟩:=hs.cons_inv;obtain rfl:=hs.nil_inv;obtain⟨n0,rfl,b0⟩:=h0.i64_inv;obtain⟨n1,rfl,b1⟩:=h1.i64_inv;obtain⟨n2,rfl,b2⟩:=h2.i64_inv;obtain⟨n3,rfl,b3⟩:=h3.i64_inv;obtain⟨n4,rfl,b4⟩:=h4.i64_inv;obtain⟨n5,rfl,b5⟩:=h5.i64_inv;obtain⟨n6,rfl,b6⟩:=h6.i64_inv;obtain⟨n7,rfl,b7⟩:=h7.i64_inv;obtain⟨n8,rfl,b8⟩:=h8.i64_inv;exact⟨⟨n0,n1,n2,n3,n4,n5,n6,n7,n8⟩,rfl,⟨b0,b1,b2,b3,b4,b5,b6,b7,b8⟩⟩
theorem ajA {d:D}(h:DTy (.slice X3) d):∃l:List Act,d=acts l∧l.length≤maxLen∧∀y,y∈l→Act.OK y:=by
 obtain⟨xs,rfl,hm,hx⟩:=h.slice_inv;obtain⟨l,rfl,hl⟩:=kz (enc:=iW) (P:=Act.OK) fun x hh=>ajz (hx x hh);exact⟨l,rfl,by simpa using hm,hl⟩
structure Fact where
 kind:Int
 at_:Int
 n:Int
 deriving DecidableEq,Inhabited
def sA (x:Fact):D:=.agg [.int x.kind,.int x.at_,.int x.n]
@[simp] theorem aBS (x:Fact):(sA x).cells=[.int x.kind,.int x.at_,.int x.n]:=_root_.id rfl
@[simp] theorem aGh (x:Fact):D.agg [.int x.kind,.int x.at_,.int x.n]=sA x:=_root_.id rfl
@[simp] theorem aBP (x:Fact):(sA x).c 0=.int x.kind:=_root_.id rfl
@[simp] theorem aBQ (x:Fact):(sA x).c 1=.int x.at_:=_root_.id rfl
@[simp] theorem aBR (x:Fact):(sA x).c 2=.int x.n:=_root_.id rfl
def facts (l:List Fact):D:=.list (l.map sA)
@[simp] theorem aE2 (l:List Fact):(facts l).l=l.map sA:=_root_.id rfl
@[simp] theorem aE1 (l:List Fact):(facts l).cells=[facts l]:=_root_.id rfl
abbrev X7:Ty:=.agg [.int .i64,.int .i64,.int .i64]
def Fact.OK (x:Fact):Prop:=aW x.kind∧aW x.at_∧aW x.n
theorem amh {d:D}(h:DTy X7 d):∃x:Fact,d=sA x∧x.OK:=by
 obtain⟨ds,rfl,hs⟩:=h.agg_inv;obtain⟨d0,ds,rfl,h0,hs⟩:=hs.cons_inv;obtain⟨d1,ds,rfl,h1,hs⟩:=hs.cons_inv;obtain⟨d2,ds,rfl,h2,hs⟩:=hs.cons_inv;obtain rfl:=hs.nil_inv;obtain⟨n0,rfl,b0⟩:=h0.i64_inv;obtain⟨n1,rfl,b1⟩:=h1.i64_inv;obtain⟨n2,rfl,b2⟩:=h2.i64_inv;exact⟨⟨n0,n1,n2⟩,rfl,⟨b0,b1,b2⟩⟩
theorem ami {d:D}(h:DTy (.slice X7) d):∃l:List Fact,d=facts l∧l.length≤maxLen∧∀y,y∈l→Fact.OK y:=by
 obtain⟨xs,rfl,hm,hx⟩:=h.slice_inv;obtain⟨l,rfl,hl⟩:=kz (enc:=sA) (P:=Fact.OK) fun x hh=>amh (hx x hh);exact⟨l,rfl,by simpa using hm,hl⟩
structure File where
 bill:Bill
 signs:List Sign
 alters:List Alter
 acts:List Act
 facts:List Fact
 deriving Inhabited
def bT (x:File):D:=.agg [.int x.bill.drawer,.int x.bill.drawee,.int x.bill.payee,.int x.bill.sum,.int x.bill.currency,.int x.bill.tenor.kind,.int x.bill.tenor.n,.int x.bill.tenor.unit,.int x.bill.day,.int x.bill.city,.int x.bill.pay,.int x.bill.need,.int x.bill.rate,.int x.bill.flags,.int x.bill.parts,signs x.signs,alters x.alters,acts x.acts,facts x.facts]
@[simp] theorem aCc (x:File):(bT x).cells=[.int x.bill.drawer,.int x.bill.drawee,.int x.bill.payee,.int x.bill.sum,.int x.bill.currency,.int x.bill.tenor.kind,.int x.bill.tenor.n,.int x.bill.tenor.unit,.int x.bill.day,.int x.bill.city,.int x.bill.pay,.int x.bill.need,.int x.bill.rate,.int x.bill.flags,.int x.bill.parts,signs x.signs,alters x.alters,acts x.acts,facts x.facts]:=_root_.id rfl
@[simp] theorem aGi (x:File):D.agg [.int x.bill.drawer,.int x.bill.drawee,.int x.bill.payee,.int x.bill.sum,.int x.bill.currency,.int x.bill.tenor.kind,.int x.bill.tenor.n,.int x.bill.tenor.unit,.int x.bill.day,.int x.bill.city,.int x.bill.pay,.int x.bill.need,.int x.bill.rate,.int x.bill.flags,.int x.bill.parts,signs x.signs,alters x.alters,acts x.acts,facts x.facts]=bT x:=_root_.id rfl
@[simp] theorem aDs (x:File):kg 19 (bT x)=bT x:=_root_.id rfl
@[simp] theorem aGG (x:File)(a0 a1 a2 a3 a4 a5 a6 a7 a8 a9 gy ib ic ij il jj jk jP jQ:D):D.agg (dm [a0,a1,a2,a3,a4,a5,a6,a7,a8,a9,gy,ib,ic,ij,il,jj,jk,jP,jQ] 0 [.int x.bill.drawer,.int x.bill.drawee,.int x.bill.payee,.int x.bill.sum,.int x.bill.currency,.int x.bill.tenor.kind,.int x.bill.tenor.n,.int x.bill.tenor.unit,.int x.bill.day,.int x.bill.city,.int x.bill.pay,.int x.bill.need,.int x.bill.rate,.int x.bill.flags,.int x.bill.parts,signs x.signs,alters x.alters,acts x.acts,facts x.facts])=bT x:=_root_.id rfl
@[simp] theorem aBT (x:File):(bT x).c 0=.int x.bill.drawer:=_root_.id rfl
@[simp] theorem aBU (x:File):(bT x).c 1=.int x.bill.drawee:=_root_.id rfl
@[simp] theorem aB4 (x:File):(bT x).c 2=.int x.bill.payee:=_root_.id rfl
@[simp] theorem aB5 (x:File):(bT x).c 3=.int x.bill.sum:=_root_.id rfl
@[simp] theorem aB6 (x:File):(bT x).c 4=.int x.bill.currency:=_root_.id rfl
@[simp] theorem aB7 (x:File):(bT x).c 5=.int x.bill.tenor.kind:=_root_.id rfl
@[simp] theorem aB8 (x:File):(bT x).c 6=.int x.bill.tenor.n:=_root_.id rfl
@[simp] theorem aB9 (x:File):(bT x).c 7=.int x.bill.tenor.unit:=_root_.id rfl
@[simp] theorem aCa (x:File):(bT x).c 8=.int x.bill.day:=_root_.id rfl
@[simp] theorem aCb (x:File):(bT x).c 9=.int x.bill.city:=_root_.id rfl
@[simp] theorem aBV (x:File):(bT x).c 10=.int x.bill.pay:=_root_.id rfl
@[simp] theorem aBW (x:File):(bT x).c 11=.int x.bill.need:=_root_.id rfl
@[simp] theorem aBX (x:File):(bT x).c 12=.int x.bill.rate:=_root_.id rfl
@[simp] theorem aBY (x:File):(bT x).c 13=.int x.bill.flags:=_root_.id rfl
@[simp] theorem aBZ (x:File):(bT x).c 14=.int x.bill.parts:=_root_.id rfl
@[simp] theorem aB0 (x:File):(bT x).c 15=signs x.signs:=_root_.id rfl
@[simp] theorem aB1 (x:File):(bT x).c 16=alters x.alters:=_root_.id rfl
@[simp] theorem aB2 (x:File):(bT x).c 17=acts x.acts:=_root_.id rfl
@[simp] theorem aB3 (x:File):(bT x).c 18=facts x.facts:=_root_.id rfl
abbrev azZ:Ty:=.agg [.int .i64,.int .i64,.int .i64,.int .i64,.int .i64,.int .i64,.int .i64,.int .i64,.int .i64,.int .i64,.int .i64,.int .i64,.int .i64,.int .i64,.int .i64,.slice Ye,.slice X4,.slice X3,.slice X7]
def File.OK (x:File):Prop:=Bill.OK x.bill∧(x.signs.length≤maxLen∧∀y,y∈x.signs→Sign.OK y)∧(x.alters.length≤maxLen∧∀y,y∈x.alters→Alter.OK y)∧(x.acts.length≤maxLen∧∀y,y∈x.acts→Act.OK y)∧(x.facts.length≤maxLen∧∀y,y∈x.facts→Fact.OK y)
theorem amk {d:D}(h:DTy azZ d):∃x:File,d=bT x∧x.OK:=by
 obtain⟨ds,rfl,hs⟩:=h.agg_inv;obtain⟨d0,ds,rfl,h0,hs⟩:=hs.cons_inv;obtain⟨d1,ds,rfl,h1,hs⟩:=hs.cons_inv;obtain⟨d2,ds,rfl,h2,hs⟩:=hs.cons_inv;obtain⟨d3,ds,rfl,h3,hs⟩:=hs.cons_inv;obtain⟨d4,ds,rfl,h4,hs⟩:=hs.cons_inv;obtain⟨d5,ds,rfl,h5,hs⟩:=hs.cons_inv;obtain⟨d6,ds,rfl,h6,hs⟩:=hs.cons_inv;obtain⟨d7,ds,rfl,h7,hs⟩:=hs.cons_inv;obtain⟨d8,ds,rfl,h8,hs⟩:=hs.cons_inv;obtain⟨d9,ds,rfl,h9,hs⟩:=hs.cons_inv;obtain⟨d10,ds,rfl,lD,hs⟩:=hs.cons_inv;obtain⟨d11,ds,rfl,oa,hs⟩:=hs.cons_inv;obtain⟨d12,ds,rfl,mj,hs⟩:=hs.cons_inv;obtain⟨d13,ds,rfl,h13,hs⟩:=hs.cons_inv;obtain⟨d14,ds,rfl,h14,hs⟩:=hs.cons_inv;obtain⟨d15,ds,rfl,JT,hs⟩:=hs.cons_inv;obtain⟨d16,ds,rfl,JU,hs⟩:=hs.cons_inv;obtain⟨d17,ds,rfl,JV,hs⟩:=hs.cons_inv;obtain⟨d18,ds,rfl,JW,hs⟩:=hs.cons_inv;obtain rfl:=hs.nil_inv;obtain⟨n0,rfl,b0⟩:=h0.i64_inv;obtain⟨n1,rfl,b1⟩:=h1.i64_inv;obtain⟨n2,rfl,b2⟩:=h2.i64_inv;obtain⟨n3,rfl,b3⟩:=h3.i64_inv;obtain⟨n4,rfl,b4⟩:=h4.i64_inv;obtain⟨n5,rfl,b5⟩:=h5.i64_inv;obtain⟨n6,rfl,b6⟩:=h6.i64_inv;obtain⟨n7,rfl,b7⟩:=h7.i64_inv;obtain⟨n8,rfl,b8⟩:=h8.i64_inv;obtain⟨n9,rfl,b9⟩:=h9.i64_inv;obtain⟨n10,rfl,b10⟩:=lD.i64_inv;obtain⟨n11,rfl,b11⟩:=oa.i64_inv;obtain⟨n12,rfl,b12⟩:=mj.i64_inv;obtain⟨n13,rfl,b13⟩:=h13.i64_inv;obtain⟨n14,rfl,b14⟩:=h14.i64_inv;obtain⟨n15,rfl,b15,c15⟩:=awt JT;obtain⟨n16,rfl,b16,c16⟩:=ajG JU;obtain⟨n17,rfl,b17,c17⟩:=ajA JV;obtain⟨n18,rfl,b18,c18⟩:=ami JW;exact⟨⟨⟨n0,n1,n2,n3,n4,⟨n5,n6,n7⟩,n8,n9,n10,n11,n12,n13,n14⟩,n15,n16,n17,n18⟩,rfl,⟨⟨b0,b1,b2,b3,b4,⟨b5,b6,b7⟩,b8,b9,b10,b11,b12,b13,b14⟩,⟨b15,c15⟩,⟨b16,c16⟩,⟨b17,c17⟩,⟨b18,c18⟩⟩⟩
structure Case where
 file:File
 sign:Int
 holder:Int
 defence:Int
 due:Int
 day:Int
 deriving Inhabited
def eL (x:Case):D:=.agg [.int x.file.bill.drawer,.int x.file.bill.drawee,.int x.file.bill.payee,.int x.file.bill.sum,.int x.file.bill.currency,.int x.file.bill.tenor.kind,.int x.file.bill.tenor.n,.int x.file.bill.tenor.unit,.int x.file.bill.day,.int x.file.bill.city,.int x.file.bill.pay,.int x.file.bill.need,.int x.file.bill.rate,.int x.file.bill.flags,.int x.file.bill.parts,signs x.file.signs,alters x.file.alters,acts x.file.acts,facts x.file.facts,.int x.sign,.int x.holder,.int x.defence,.int x.due,.int x.day]
@[simp] theorem aBc (x:Case):(eL x).cells=[.int x.file.bill.drawer,.int x.file.bill.drawee,.int x.file.bill.payee,.int x.file.bill.sum,.int x.file.bill.currency,.int x.file.bill.tenor.kind,.int x.file.bill.tenor.n,.int x.file.bill.tenor.unit,.int x.file.bill.day,.int x.file.bill.city,.int x.file.bill.pay,.int x.file.bill.need,.int x.file.bill.rate,.int x.file.bill.flags,.int x.file.bill.parts,signs x.file.signs,alters x.file.alters,acts x.file.acts,facts x.file.facts,.int x.sign,.int x.holder,.int x.defence,.int x.due,.int x.day]:=_root_.id rfl
@[simp] theorem aGc (x:Case):D.agg [.int x.file.bill.drawer,.int x.file.bill.drawee,.int x.file.bill.payee,.int x.file.bill.sum,.int x.file.bill.currency,.int x.file.bill.tenor.kind,.int x.file.bill.tenor.n,.int x.file.bill.tenor.unit,.int x.file.bill.day,.int x.file.bill.city,.int x.file.bill.pay,.int x.file.bill.need,.int x.file.bill.rate,.int x.file.bill.flags,.int x.file.bill.parts,signs x.file.signs,alters x.file.alters,acts x.file.acts,facts x.file.facts,.int x.sign,.int x.holder,.int x.defence,.int x.due,.int x.day]=eL x:=_root_.id rfl
@[simp] theorem ajE (x:Case):kg 24 (eL x)=eL x:=_root_.id rfl
@[simp] theorem aub (x:Case)(a0 a1 a2 a3 a4 a5 a6 a7 a8 a9 gy ib ic ij il jj jk jP jQ v5 v7 v8 v9 wc:D):D.agg (dm [a0,a1,a2,a3,a4,a5,a6,a7,a8,a9,gy,ib,ic,ij,il,jj,jk,jP,jQ,v5,v7,v8,v9,wc] 0 [.int x.file.bill.drawer,.int x.file.bill.drawee,.int x.file.bill.payee,.int x.file.bill.sum,.int x.file.bill.currency,.int x.file.bill.tenor.kind,.int x.file.bill.tenor.n,.int x.file.bill.tenor.unit,.int x.file.bill.day,.int x.file.bill.city,.int x.file.bill.pay,.int x.file.bill.need,.int x.file.bill.rate,.int x.file.bill.flags,.int x.file.bill.parts,signs x.file.signs,alters x.file.alters,acts x.file.acts,facts x.file.facts,.int x.sign,.int x.holder,.int x.defence,.int x.due,.int x.day])=eL x:=_root_.id rfl
@[simp] theorem aBb (x:Case):(eL x).c 9=.int x.file.bill.city:=_root_.id rfl
@[simp] theorem aA4 (x:Case):(eL x).c 10=.int x.file.bill.pay:=_root_.id rfl
@[simp] theorem aA5 (x:Case):(eL x).c 15=signs x.file.signs:=_root_.id rfl
@[simp] theorem aA6 (x:Case):(eL x).c 19=.int x.sign:=_root_.id rfl
@[simp] theorem aA7 (x:Case):(eL x).c 20=.int x.holder:=_root_.id rfl
@[simp] theorem aA8 (x:Case):(eL x).c 21=.int x.defence:=_root_.id rfl
@[simp] theorem aA9 (x:Case):(eL x).c 22=.int x.due:=_root_.id rfl
@[simp] theorem aBa (x:Case):(eL x).c 23=.int x.day:=_root_.id rfl
def cases(l:List Case):D:=.list (l.map eL)
structure Cell where
 known:Bool
 n:Int
 deriving DecidableEq,Inhabited
def cm (x:Cell):D:=.agg [.bool x.known,.int x.n]
@[simp] theorem aBf (x:Cell):(cm x).cells=[.bool x.known,.int x.n]:=_root_.id rfl
@[simp] theorem aGd (x:Cell):D.agg [.bool x.known,.int x.n]=cm x:=_root_.id rfl
@[simp] theorem aBd (x:Cell):(cm x).c 0=.bool x.known:=_root_.id rfl
@[simp] theorem aBe (x:Cell):(cm x).c 1=.int x.n:=_root_.id rfl
def cells (l:List Cell):D:=.list (l.map cm)
@[simp] theorem aDQ (l:List Cell):(cells l).l=l.map cm:=_root_.id rfl
@[simp] theorem aDP (l:List Cell):(cells l).cells=[cells l]:=_root_.id rfl
structure Said where
 cell:Cell
 order:Int
 path:List Int
 err:Int
 deriving Inhabited
def iv (x:Said):D:=.agg [.bool x.cell.known,.int x.cell.n,.int x.order,ints x.path,.int x.err]
@[simp] theorem aCP (x:Said):(iv x).cells=[.bool x.cell.known,.int x.cell.n,.int x.order,ints x.path,.int x.err]:=_root_.id rfl
@[simp] theorem aGr (x:Said):D.agg [.bool x.cell.known,.int x.cell.n,.int x.order,ints x.path,.int x.err]=iv x:=_root_.id rfl
@[simp] theorem aDv (x:Said):kg 5 (iv x)=iv x:=_root_.id rfl
@[simp] theorem aCO (x:Said):(iv x).c 4=.int x.err:=_root_.id rfl
@[simp] theorem aHl (a0 x0:D):dm [a0] 0 [x0]=[x0]:=_root_.id rfl
@[simp] theorem aHm (a0 a1 x0 x1:D):dm [a0,a1] 0 [x0,x1]=[x0,x1]:=_root_.id rfl
@[simp] theorem aHn (a0 a1 a2 x0 x1 x2:D):dm [a0,a1,a2] 0 [x0,x1,x2]=[x0,x1,x2]:=_root_.id rfl
@[simp] theorem aHo (a0 a1 a2 a3 x0 x1 x2 x3:D):dm [a0,a1,a2,a3] 0 [x0,x1,x2,x3]=[x0,x1,x2,x3]:=_root_.id rfl
@[simp] theorem aHp (a0 a1 a2 a3 a4 x0 x1 x2 x3 x4:D):dm [a0,a1,a2,a3,a4] 0 [x0,x1,x2,x3,x4]=[x0,x1,x2,x3,x4]:=_root_.id rfl
@[simp] theorem aHq (a0 a1 a2 a3 a4 a5 x0 x1 x2 x3 x4 x5:D):dm [a0,a1,a2,a3,a4,a5] 0 [x0,x1,x2,x3,x4,x5]=[x0,x1,x2,x3,x4,x5]:=_root_.id rfl
@[simp] theorem aHr (a0 a1 a2 a3 a4 a5 a6 a7 a8 x0 x1 x2 x3 x4 x5 x6 x7 x8:D):dm [a0,a1,a2,a3,a4,a5,a6,a7,a8] 0 [x0,x1,x2,x3,x4,x5,x6,x7,x8]=[x0,x1,x2,x3,x4,x5,x6,x7,x8]:=_root_.id rfl
end Rm
set_option maxRecDepth 100000
namespace Rm
open Go Go.Proofs Cx
abbrev I:Ty:=.int .i64
abbrev Y0:Ty:=.agg [.str,I,I,(.slice I),(.slice I),(.slice I)]
abbrev Y1:Ty:=.agg [I]
abbrev Y2:Ty:=.agg [.str,I,I]
abbrev Y3:Ty:=.agg [I,I,.bool]
abbrev Y4:Ty:=.agg [I,I,I,(.slice .trm)]
abbrev Y5:Ty:=.agg [.str,.bool,(.slice Y3),(.slice Y4)]
abbrev Y6:Ty:=.agg [I,I,I]
abbrev Y7:Ty:=.agg [I,I,I,I,I]
abbrev Y8:Ty:=.agg [(.slice .str),(.slice Y0),(.slice Y1),(.slice Y2),(.slice Y5),(.slice Y6),(.slice Y7),(.slice Y6)]
abbrev Y9:Ty:=.agg [I,I,I,I,I,I,I,I,I]
abbrev sk:Ty:=.agg [I,I]
abbrev eJ:Ty:=.agg [I,I,I,I,I,I,I,I,I,I,I,I,I,I,I,(.slice Y9),(.slice sk),(.slice Y9),(.slice Y6)]
abbrev Y12:Ty:=.agg [I,I,I,I]
abbrev mW:Ty:=.agg [.bool,I,I,(.slice I),I]
abbrev yT:Ty:=.agg [I,I,I,I,I,I,I,I,I,I,I,I,I,I,I]
abbrev po:Ty:=.agg [(.slice .str),(.slice Y0),(.slice Y1),(.slice Y2),(.slice Y5),(.slice Y6),(.slice Y7),(.slice Y6),I,I,I,I,I,I,I,I,I,I,I,I,I,I,I,I,(.slice Y9),(.slice sk),(.slice Y9),(.slice Y6),I,I,I]
abbrev l8:Ty:=.agg [I,I,I,I,I,I,I,I,I,I,I,I,I,I,I,(.slice Y9),(.slice sk),(.slice Y9),(.slice Y6),I,I,I,I,I]
abbrev dr:Ty:=.agg [.bool,I]
abbrev l9:Ty:=.agg [I,I,(.slice .trm)]
abbrev YY:Ty:=.agg [(.slice dr)]
abbrev Y20:Ty:=.agg [(.slice I),I]
def vE:List (Nat×Sig):=[
 (4,⟨[Y8,I,eJ,I,I,I],.bool,.dat⟩),
 (14,⟨[],.bool,.dat⟩),
 (15,⟨[Y8,eJ],.bool,.dat⟩),
 (16,⟨[Y8,I,eJ,I],I,.dat⟩),
 (17,⟨[Y8,eJ],I,.dat⟩),
 (18,⟨[Y8,I,eJ,I,I],Y12,.dat⟩),
 (19,⟨[Y8,I,eJ,I],I,.dat⟩),
 (20,⟨[Y8,I,I,eJ,I,I],mW,.dat⟩),
 (21,⟨[Y8,mW,I,I],I,.dat⟩),
 (22,⟨[mW],I,.dat⟩),
 (24,⟨[Y8,eJ],.bool,.dat⟩),
 (25,⟨[Y8],I,.dat⟩),
 (28,⟨[eJ,I],eJ,.dat⟩),
 (31,⟨[],Y8,.dat⟩),
 (32,⟨[I,I],eJ,.dat⟩),
 (33,⟨[eJ,I],eJ,.dat⟩),
 (34,⟨[mW],I,.dat⟩),
 (35,⟨[Y8,I,I,eJ,I],mW,.dat⟩),
 (36,⟨[Y8,yT,I,I],(.tup [I,I]),.dat⟩),
 (37,⟨[eJ],I,.dat⟩),
 (38,⟨[Y8,yT],I,.dat⟩),
 (39,⟨[Y8,eJ,I],I,.dat⟩),
 (40,⟨[I,I,I],.bool,.dat⟩),
 (41,⟨[Y8,eJ],I,.dat⟩),
 (42,⟨[eJ],I,.dat⟩),
 (43,⟨[Y8,I,eJ,I,I],po,.dat⟩),
 (44,⟨[po],I,.dat⟩),
 (45,⟨[mW,I],I,.dat⟩),
 (46,⟨[po,I],mW,.dat⟩),
 (47,⟨[po],I,.dat⟩),
 (48,⟨[po],I,.dat⟩),
 (49,⟨[(.slice I)],I,.dat⟩),
 (50,⟨[po],I,.dat⟩),
 (51,⟨[Y8,I,eJ,I],I,.dat⟩),
 (52,⟨[Y8,I,I,l8],mW,.dat⟩),
 (53,⟨[Y0,I,I],(.tup [I,I]),.dat⟩),
 (55,⟨[Y8],.bool,.dat⟩),
 (56,⟨[eJ],.bool,.dat⟩),
 (57,⟨[Y5],.bool,.dat⟩),
 (58,⟨[Y8],I,.dat⟩),
 (59,⟨[Y8],I,.dat⟩),
 (60,⟨[Y8],I,.dat⟩),
 (61,⟨[Y8],I,.dat⟩),
 (62,⟨[Y8],I,.dat⟩),
 (67,⟨[Y8,I,I,eJ,I],mW,.dat⟩),
 (72,⟨[I,I],.bool,.dat⟩),
 (73,⟨[Y8,I,I,l8],mW,.dat⟩),
 (74,⟨[Y8],I,.dat⟩),
 (75,⟨[Y8,I],.bool,.dat⟩),
 (76,⟨[I],.bool,.dat⟩),
 (77,⟨[Y6],.bool,.dat⟩),
 (78,⟨[Y8,yT,I],(.tup [I,I]),.dat⟩),
 (79,⟨[Y8,I,I],(.tup [I,I]),.dat⟩),
 (80,⟨[(.slice I)],I,.dat⟩),
 (81,⟨[I,I],.bool,.dat⟩),
 (82,⟨[yT],.bool,.dat⟩),
 (83,⟨[Y8,I,I],(.tup [I,I]),.dat⟩),
 (84,⟨[Y8,eJ,I],.bool,.dat⟩),
 (85,⟨[Y8,eJ,Y9],.bool,.dat⟩),
 (86,⟨[(.slice I)],I,.dat⟩),
 (87,⟨[I,I],I,.dat⟩),
 (88,⟨[po,I,dr],I,.dat⟩),
 (89,⟨[po,I,I],I,.dat⟩),
 (90,⟨[po],dr,.dat⟩),
 (91,⟨[po],I,.dat⟩),
 (92,⟨[po,mW,I],dr,.dat⟩),
 (93,⟨[(.slice I),I],.bool,.dat⟩),
 (94,⟨[mW],I,.dat⟩),
 (95,⟨[Y8,yT,I,I],(.tup [I,I]),.dat⟩),
 (96,⟨[eJ],I,.dat⟩),
 (97,⟨[Y8,I,l8],(.slice I),.dat⟩),
 (98,⟨[I],.bool,.dat⟩),
 (99,⟨[Y8,I,I,(.slice I)],(.tup [(.slice I),I]),.dat⟩),
 (100,⟨[Y5,I,(.slice dr)],(.tup [dr,I]),.dat⟩),
 (101,⟨[Y8,l8],(.slice dr),.dat⟩),
 (102,⟨[I],.bool,.dat⟩),
 (103,⟨[Y0,I],(.tup [I,I]),.dat⟩),
 (104,⟨[l9],.bool,.dat⟩),
 (105,⟨[(.slice .str),I],I,.dat⟩),
 (106,⟨[Y8,Y0],.bool,.dat⟩),
 (107,⟨[I,I,I],.bool,.dat⟩),
 (108,⟨[Y5],.bool,.dat⟩),
 (111,⟨[Y8,I,I,l8],(.tup [mW,(.slice dr)]),.dat⟩),
 (112,⟨[Y5,I,(.slice dr)],(.tup [dr,I]),.dat⟩),
 (113,⟨[Y8],(.tup [(.slice .str),(.slice .str),(.slice .str)]),.dat⟩),
 (114,⟨[(.slice .str),I,(.fn [I] .bool)],I,.dat⟩),
 (115,⟨[I],.bool,.dat⟩),
 (116,⟨[I,(.ref Y8)],.bool,.dat⟩),
 (117,⟨[Y8,Y0],.bool,.dat⟩),
 (118,⟨[I,I],.bool,.dat⟩),
 (119,⟨[I,(.ref Y8)],.bool,.dat⟩),
 (120,⟨[I,(.ref Y8)],.bool,.dat⟩),
 (121,⟨[Y5],.bool,.dat⟩),
 (122,⟨[Y8],I,.dat⟩),
 (123,⟨[Y8],I,.dat⟩),
 (124,⟨[I,Y6],(.tup [I,I]),.dat⟩),
 (125,⟨[Y8,I],I,.dat⟩),
 (126,⟨[Y8,I,I],I,.dat⟩),
 (127,⟨[Y0,I],(.tup [I,I]),.dat⟩),
 (128,⟨[eJ,I,(.slice I)],.bool,.dat⟩),
 (129,⟨[eJ,I,I],.bool,.dat⟩),
 (130,⟨[I],.bool,.dat⟩),
 (131,⟨[Y0,I,I],(.tup [I,I]),.dat⟩),
 (132,⟨[(.slice I),I],I,.dat⟩),
 (133,⟨[Y8,I],.bool,.dat⟩),
 (134,⟨[Y6],.bool,.dat⟩),
 (135,⟨[Y8,I,I],(.tup [I,I]),.dat⟩),
 (136,⟨[Y8,yT,I],I,.dat⟩),
 (137,⟨[Y8,I,I],(.tup [I,I]),.dat⟩),
 (138,⟨[Y8,I],I,.dat⟩),
 (139,⟨[Y8,(.slice I)],.bool,.dat⟩),
 (140,⟨[Y8,I,I,(.slice I)],(.tup [I,.bool]),.dat⟩),
 (141,⟨[Y5,I],I,.dat⟩),
 (142,⟨[l9,(.slice dr)],dr,.dat⟩),
 (143,⟨[Y5,I],I,.dat⟩),
 (144,⟨[I],.bool,.dat⟩),
 (145,⟨[Y8,l8],(.slice dr),.dat⟩),
 (146,⟨[Y0,I],(.tup [.bool,I]),.dat⟩),
 (147,⟨[l9,I,I],I,.dat⟩),
 (148,⟨[.str],.bool,.dat⟩),
 (149,⟨[(.slice .str),I,.str],.bool,.dat⟩),
 (150,⟨[(.slice I),I,I],.bool,.dat⟩),
 (151,⟨[Y8,l8],(.tup [l8,(.slice dr)]),.dat⟩),
 (152,⟨[I],(.tup [I,.bool]),.dat⟩),
 (153,⟨[Y8,I,l8],(.nsl I),.dat⟩),
 (154,⟨[Y8,I,I,(.slice I)],(.tup [(.slice I),I]),.dat⟩),
 (155,⟨[Y5,I],(.tup [l9,I]),.dat⟩),
 (156,⟨[l9,(.slice dr)],dr,.dat⟩),
 (157,⟨[(.slice .str),I],I,.dat⟩),
 (158,⟨[(.slice I),I,I],.bool,.dat⟩),
 (159,⟨[I,I],(.tup [I,I]),.dat⟩),
 (160,⟨[I],.bool,.dat⟩),
 (161,⟨[Y0,I,I],(.fn [(.fn [I] .bool)] (.tup [])),.dat⟩),
 (162,⟨[I,I],(.tup [I,I]),.dat⟩),
 (163,⟨[Y5,I],Y3,.dat⟩),
 (164,⟨[l9],(.tup [I,I]),.dat⟩),
 (165,⟨[I],(.tup [I,.bool]),.dat⟩),
 (166,⟨[l9,(.slice dr)],dr,.dat⟩),
 (167,⟨[I],dr,.dat⟩),
 (168,⟨[.bool],dr,.dat⟩),
 (169,⟨[I,I],.bool,.dat⟩),
 (170,⟨[eJ,I,I],dr,.dat⟩),
 (171,⟨[I],(.tup [I,I,I,I]),.dat⟩),
 (172,⟨[(.slice I),I],.bool,.dat⟩),
 (173,⟨[(.int .u8)],.bool,.dat⟩),
 (174,⟨[Y8,l8],(.slice dr),.dat⟩),
 (175,⟨[Y8,I,I,(.slice I)],.bool,.dat⟩),
 (176,⟨[Y8,I,I,(.slice I)],(.tup [I,.bool]),.dat⟩),
 (177,⟨[(.slice Y4),(.fn [Y4] .bool)],I,.dat⟩),
 (178,⟨[Y4,(.ref I)],.bool,.dat⟩),
 (179,⟨[l9],(.tup [I,I]),.dat⟩),
 (180,⟨[YY,l9],(.tup [dr,(.slice I)]),.dat⟩),
 (181,⟨[.str],.bool,.dat⟩),
 (182,⟨[(.slice .str),.str],.bool,.dat⟩),
 (183,⟨[I],(.tup [I,I,I]),.dat⟩),
 (184,⟨[I,I,I],(.tup [I,I]),.dat⟩),
 (185,⟨[I,I],I,.dat⟩),
 (187,⟨[Y0,I],.bool,.dat⟩),
 (188,⟨[I,I,I],(.tup [I,I]),.dat⟩),
 (189,⟨[I,I],I,.dat⟩),
 (190,⟨[l9],(.tup [I,I]),.dat⟩),
 (191,⟨[I,(.slice dr)],dr,.dat⟩),
 (192,⟨[dr,dr,I],dr,.dat⟩),
 (193,⟨[I,I,I],dr,.dat⟩),
 (194,⟨[I],I,.dat⟩),
 (195,⟨[(.slice sk),(.fn [sk] .bool)],.bool,.dat⟩),
 (196,⟨[sk,(.ref l8)],.bool,.dat⟩),
 (197,⟨[.bool],dr,.dat⟩),
 (198,⟨[eJ,I,I],dr,.dat⟩),
 (199,⟨[(.slice I),(.fn [I] .bool)],.bool,.dat⟩),
 (200,⟨[I,(.ref I)],.bool,.dat⟩),
 (201,⟨[l9,I],I,.dat⟩),
 (202,⟨[l9],(.tup [I,I]),.dat⟩),
 (203,⟨[YY,I],dr,.dat⟩),
 (204,⟨[I,(.slice dr)],dr,.dat⟩),
 (205,⟨[(.slice (.slice I))],(.slice I),.dat⟩),
 (206,⟨[(.slice .str),.str],I,.dat⟩),
 (207,⟨[I,I,I],I,.dat⟩),
 (208,⟨[I],.bool,.dat⟩),
 (209,⟨[I],I,.dat⟩),
 (210,⟨[l9],(.tup [I,I]),.dat⟩),
 (211,⟨[I,(.slice I)],(.tup [I,.bool]),.dat⟩),
 (212,⟨[I],(.tup [I,.bool]),.dat⟩),
 (213,⟨[I],I,.dat⟩),
 (214,⟨[.bool],dr,.dat⟩),
 (215,⟨[I,I],I,.dat⟩),
 (216,⟨[(.slice sk),(.fn [sk] .bool)],I,.dat⟩),
 (217,⟨[(.slice I),(.fn [I] .bool)],I,.dat⟩),
 (218,⟨[l9],(.tup [I,I]),.dat⟩),
 (219,⟨[I],Y20,.dat⟩),
 (220,⟨[I],(.tup [I,.bool]),.dat⟩),
 (221,⟨[.bool],dr,.dat⟩),
 (222,⟨[I],I,.dat⟩),
 (223,⟨[I,I,I],I,.dat⟩),
 (224,⟨[.nils .bool,I],(.slice I),(.row 3 I)⟩),
 (225,⟨[I,I],I,.dat⟩),
 (226,⟨[(.int .u64),(.int .u64)],(.tup [(.int .u64),(.int .u64)]),.dat⟩)]
def Pg:List (Nat×CSig):=[
 (115,⟨[],[I],.bool⟩),
 (116,⟨[(.ref Y8)],[I],.bool⟩),
 (119,⟨[(.ref Y8)],[I],.bool⟩),
 (120,⟨[(.ref Y8)],[I],.bool⟩),
 (178,⟨[(.ref I)],[Y4],.bool⟩),
 (186,⟨[(.ref I),(.ref I),(.ref Y0)],[(.fn [I] .bool)],(.tup [])⟩),
 (196,⟨[(.ref l8)],[sk],.bool⟩),
 (200,⟨[(.ref I)],[I],.bool⟩)]
def ctx:Ctx:={P:=Tryz.prog,cap:=bS Pg,sig:=bS vE,atd:=fun _=>none,glob:=U9 0 [6,7,10,12,13,14,15,16,20,21]}
abbrev M3 (i:Nat):Sig:=(bS vE i).getD default
def cF (a b:List Nat)(f:Func)(i:Nat)(l:List Nat):Option PC:=mZ {ctx with fr:=a,nh:=b} f (M3 i) l
theorem aF {o:Option PC}{t:PT}{l:List (Shp×PT)}(h:o.map told=some (t,l)):tree (ab o)=t:=bE (F:=fun _=>(t,l)) h
theorem au (o:Option PC){p:PT×List (Shp×PT)}(h:o.map told=some p):o=some (ab o):=awQ (F:=fun _=>p) h
theorem aw (l a b:List Nat){f:Nat}{fn:Func}{c:PC}(h0:ctx.P.funcs[f]?=some fn)(h1:ctx.sig f=some (M3 f))(h2:mZ {ctx with fr:=a,nh:=b} fn (M3 f) l=some c):∃fn s ids fr nh,ctx.P.funcs[f]?=some fn∧ctx.sig f=some s∧mZ {ctx with fr:=fr,nh:=nh} fn s ids=some c:=⟨fn,M3 f,l,a,b,h0,h1,h2⟩
abbrev oF:PE:=.con (.agg [(.int 0),(.int 0),(.int 0),(.int 0),(.int 0),(.int 0),(.int 0),(.int 0),(.int 0),(.int 0),(.int 0),(.int 0),(.int 0),(.int 0),(.int 0),(.list []),(.list []),(.list []),(.list [])])
abbrev Fi:PE:=.setc (.con (.agg [(.list []),(.list []),(.list []),(.list []),(.list []),(.list []),(.list []),(.list [])])) 0 (.mk [(.lst [(.con (.v (.string ⟨#[102,114,97,110,99]⟩)))]),(.lst [(.mk [(.con (.v (.string ⟨#[76,121,111,110]⟩))),(pi 0),(pi 0),pL,pL,pL])]),(.lst [(.mk [(pi 0)])]),(.lst [(.mk [(.con (.v (.string ⟨#[97]⟩))),(pi 0),(pi 0)]),(.mk [(.con (.v (.string ⟨#[98]⟩))),(pi 0),(pi 0)])]),(.lst [(.mk [(pc (.setc (.con (.agg [(.v (.string ⟨#[]⟩)),(.bool false),(.list []),(.list [])])) 0 (.mk [(.con (.v (.string ⟨#[103,101,110,101,118,97]⟩))),pF,pL,(.lst [(.mk [(pi 8),(.mk [(pc (.setc (.con (.agg [(.int 0),(.int 0),(.list [])])) 0 (.mk [(pi 1),(pi 1),pL])) 0),(pc (.setc (.con (.agg [(.int 0),(.int 0),(.list [])])) 0 (.mk [(pi 1),(pi 1),pL])) 1),pL])]),(.mk [(pi 9),(.mk [(pc (.setc (.con (.agg [(.int 0),(.int 0),(.list [])])) 0 (.mk [(pi 2),(pi 15),pL])) 0),(pc (.setc (.con (.agg [(.int 0),(.int 0),(.list [])])) 0 (.mk [(pi 2),(pi 15),pL])) 1),pL])]),(.mk [(pi 10),(.mk [(pi 0),(pi 2),pL])])])])) 0),(pc (.setc (.con (.agg [(.v (.string ⟨#[]⟩)),(.bool false),(.list []),(.list [])])) 0 (.mk [(.con (.v (.string ⟨#[103,101,110,101,118,97]⟩))),pF,pL,(.lst [(.mk [(pi 8),(.mk [(pc (.setc (.con (.agg [(.int 0),(.int 0),(.list [])])) 0 (.mk [(pi 1),(pi 1),pL])) 0),(pc (.setc (.con (.agg [(.int 0),(.int 0),(.list [])])) 0 (.mk [(pi 1),(pi 1),pL])) 1),pL])]),(.mk [(pi 9),(.mk [(pc (.setc (.con (.agg [(.int 0),(.int 0),(.list [])])) 0 (.mk [(pi 2),(pi 15),pL])) 0),(pc (.setc (.con (.agg [(.int 0),(.int 0),(.list [])])) 0 (.mk [(pi 2),(pi 15),pL])) 1),pL])]),(.mk [(pi 10),(.mk [(pi 0),(pi 2),pL])])])])) 1),pL,(pc (.setc (.con (.agg [(.v (.string ⟨#[]⟩)),(.bool false),(.list []),(.list [])])) 0 (.mk [(.con (.v (.string ⟨#[103,101,110,101,118,97]⟩))),pF,pL,(.lst [(.mk [(pi 8),(.mk [(pc (.setc (.con (.agg [(.int 0),(.int 0),(.list [])])) 0 (.mk [(pi 1),(pi 1),pL])) 0),(pc (.setc (.con (.agg [(.int 0),(.int 0),(.list [])])) 0 (.mk [(pi 1),(pi 1),pL])) 1),pL])]),(.mk [(pi 9),(.mk [(pc (.setc (.con (.agg [(.int 0),(.int 0),(.list [])])) 0 (.mk [(pi 2),(pi 15),pL])) 0),(pc (.setc (.con (.agg [(.int 0),(.int 0),(.list [])])) 0 (.mk [(pi 2),(pi 15),pL])) 1),pL])]),(.mk [(pi 10),(.mk [(pi 0),(pi 2),pL])])])])) 3)])]),pL,pL,pL])
abbrev kC:PE:=.setc (.setc oF 0 (.mk [(ah 15 (.setc dD 0 (.mk [(pi 0),(pi 1),(pi 0),(pi 5),(pi 0),(.mk [(pi 3),(pi 10),(pi 0)]),(pi 2),(pi 0),(pi 0),(pi (-1)),(pi 0),(pi 1),(pi 1)]))),(.lst [(.mk [(pi 0),(pi 0),(pi 0),(pi (-1)),(pi (-1)),(pi 0),(pi 2),(pi 0),(pi 0)])]),pL,pL,pL])) 17 pN
abbrev yd:PE:=.ai .quo .i64 (aS (aH (aS (.ai .rem .i64 (aH r0 (pi 730425)) (pi 146097)) (.ai .quo .i64 (.ai .rem .i64 (aH r0 (pi 730425)) (pi 146097)) (pi 1460))) (.ai .quo .i64 (.ai .rem .i64 (aH r0 (pi 730425)) (pi 146097)) (pi 36524))) (.ai .quo .i64 (.ai .rem .i64 (aH r0 (pi 730425)) (pi 146097)) (pi 146096))) (pi 365)
abbrev cr:PE:=.con (.agg [(.bool false),(.int 0)])
abbrev jD:PE:=.setc (.setc (.setc (.setc (.setc oF 0 (ah 19 o8)) 17 pN) 17 pN) 17 pN) 17 pN
abbrev L7:PE:=.ai .quo .i64 (aH (.ai .mul .i64 (pi 5) (aS (.ai .rem .i64 (aH r0 (pi 730425)) (pi 146097)) (aS (aH (.ai .mul .i64 (pi 365) yd) (.ai .quo .i64 yd (pi 4))) (.ai .quo .i64 yd (pi 100))))) (pi 2)) (pi 153)
abbrev j4:PE:=.con (.agg [(.bool false),(.int 0),(.int 0),(.list []),(.int 0)])
abbrev ry:PE:=.deref (.con (.ref (.agg [(.int 6),(.int 7),(.int 10),(.int 12),(.int 13),(.int 14),(.int 15),(.int 16),(.int 20),(.int 21)])))
abbrev lf:PE:=.setc z3 0 (.mk [(pc (.mk [r0]) 5),(pc (.mk [r0]) 6),(pc (.mk [r0]) 7)])
abbrev LS:PE:=.put (.put (.put (.put (.con (.map [])) (pi 7) (aC (.ai .and .i64 (pc o6 13) (pi 1)) (pi 0))) (pi 8) (ae (pc o6 2) (pi (-1)))) (pi 9) (aC (.ai .and .i64 (pc o6 13) (pi 4)) (pi 0))) (pi 10) (aC (.ai .and .i64 (pc o6 13) (pi 2)) (pi 0))
abbrev LV:PE:=.con (.agg [(.list []),(.list []),(.list []),(.list []),(.list []),(.list []),(.list []),(.list []),(.int 0),(.int 0),(.int 0),(.int 0),(.int 0),(.int 0),(.int 0),(.int 0),(.int 0),(.int 0),(.int 0),(.int 0),(.int 0),(.int 0),(.int 0),(.int 0),(.list []),(.list []),(.list []),(.list []),(.int 0),(.int 0),(.int 0)])
abbrev af6:PE:=.app (.app (.app (.lst []) (pc o8 17)) (.lst [(.mk [(pi 2),r4,(pc (.setc dD 0 (ah 15 o8)) 1),(pi 0),(pi (-1)),(pi 0),bH,(pc (.setc dD 0 (ah 15 o8)) 10),(pi 0)])])) (.lst [(.mk [(pi 4),r4,(pc (.setc dD 0 (ah 15 o8)) 1),(pi 0),(pi (-1)),(pi 0),bH,(pc (.setc dD 0 (ah 15 o8)) 10),(pi 0)])])
abbrev LX:PE:=.pick (.pick jF (.nt lj) pF) (.pick (aP (pc (.pick (ao (pc o9 1) (pi 0)) (.setc o9 1 (pi 0)) o9) 1) (pi 20000)) (.setc (.pick (ao (pc o9 1) (pi 0)) (.setc o9 1 (pi 0)) o9) 1 (pi 20000)) (.pick (ao (pc o9 1) (pi 0)) (.setc o9 1 (pi 0)) o9)) o9
abbrev j3:PE:=.setc (.mk [r3]) 18 pL
abbrev jC:PE:=.setc (.setc oF 0 (ah 19 o8)) 17 pL
abbrev L2:PE:=.mk [(pc ba 0),(pc ba 1),(pc ba 2),(pc ba 3),(pc ba 4),(pc ba 5),(pc ba 6),(pc ba 7),(pc ba 8),(pc ba 9),(pc ba 10),(pc ba 11),(pc ba 12),(pc ba 13),(pc ba 14),(pc ba 15),(pc ba 16),(.o 73747),(pc ba 18)]
abbrev mG:PE:=.con (.agg [(.int 0),(.int 0),(.list [])])
abbrev tD:PE:=.mk [(pc (.setc o4 0 (.mk [pF,(pi 0)])) 0),(pc (.setc o4 0 (.mk [pF,(pi 0)])) 1)]
abbrev cq:PE:=pi 4294967296
abbrev tE:PE:=.con (.agg [(.int 0),(.int 0),(.bool false)])
abbrev lP:PE:=.con (.agg [(.list []),(.int 0)])
abbrev yb:PE:=.setc z3 0 (.mk [(pc (.mk [r1]) 5),(pc (.mk [r1]) 6),(pc (.mk [r1]) 7)])
abbrev oG:PE:=.setc z9 0 (pn (pc (.mk [r1]) 15) r2)
abbrev BG:PE:=.mk [(pc (.setc cr 0 eG) 0),(pc (.setc cr 0 eG) 1)]
abbrev fw:PE:=ah 8 (.mk [r0])
abbrev BH:PE:=.setc z9 0 (pn (pc (.mk [r2]) 15) (pc (.mk [r2]) 19))
abbrev agc:PE:=.mk [(pc (.mk [r0]) 9),(pc (.mk [r0]) 10),(pc (.mk [r0]) 11),(pc (.mk [r0]) 12),(pc (.mk [r0]) 13),(pc (.mk [r0]) 14),(pc (.mk [r0]) 15),(pc (.mk [r0]) 16),(pc (.mk [r0]) 17),(pc (.mk [r0]) 18),(pc (.mk [r0]) 19),(pc (.mk [r0]) 20),(pc (.mk [r0]) 21),(pc (.mk [r0]) 22),(pc (.mk [r0]) 23),(pc (.mk [r0]) 24),(pc (.mk [r0]) 25),(pc (.mk [r0]) 26),(pc (.mk [r0]) 27)]
abbrev Tn:PE:=.put (.put (.put (.con (.map [])) (pi 0) (pc o6 3)) (pi 1) (pc o6 14)) (pi 2) (pc o6 5)
abbrev iO:PE:=pc (.mk [r0]) 0
abbrev L3:PE:=.pick (.pick (ae (.tget gK 0) (pi 0)) (pc bY 0) pF) (.setc bY 1 (.mn (.mx (pc bY 1) (pi 0)) (pi 20000))) bY
abbrev Fj:PE:=.mk [(pc (.setc cr 0 (.mk [pF,(pi 0)])) 0),(pc (.setc cr 0 (.mk [pF,(pi 0)])) 1)]
abbrev jc:PE:=pc (.mk [r0]) 1
abbrev Fk:PE:=aH (aS (aH (.ai .mul .i64 (pi 12) (.tget fy 0)) (.tget fy 1)) (pi 1)) r1
abbrev agd:PE:=.mk [(.mk [(pc j3 0),(pc j3 1),(pc j3 2),(pc j3 3),(pc j3 4),(pc j3 5),(pc j3 6),(pc j3 7),(pc j3 8),(pc j3 9),(pc j3 10),(pc j3 11),(pc j3 12),(pc j3 13),(pc j3 14),(pc j3 15),(pc j3 16),(pc j3 17),pL]),(pi 0),(pi (-1)),(pi (-1)),(pi (-1)),r4]
abbrev age:PE:=.ai .add .u64 (.ai .mul .u64 (.ai .shr .u64 r0 (.con (.v (.int .u64 32)))) (.ai .and .u64 r1 (.con (.v (.int .u64 4294967295))))) (.ai .shr .u64 (.ai .mul .u64 (.ai .and .u64 r0 (.con (.v (.int .u64 4294967295)))) (.ai .and .u64 r1 (.con (.v (.int .u64 4294967295))))) (.con (.v (.int .u64 32))))
abbrev yc:PE:=.setc (.setc bY 3 (.tget Fx 0)) 4 (.tget Fx 1)
abbrev vk:PE:=.setc oF 0 (ah 19 (.mk [r1]))
abbrev L4:PE:=aP (.mx r0 (aS (pi 0) r0)) (.ai .quo .i64 (pi 1099511627776) (.mx r1 (aS (pi 0) r1)))
abbrev To:PE:=.app af6 (.lst [(.mk [(pi 5),r4,(pc (pn (pc o8 15) r3) 2),(pi 0),(pi (-1)),(pi 0),bH,(pc (.setc dD 0 (ah 15 o8)) 10),(pi 0)])])
abbrev Fl:PE:=pc (.mk [r0]) 2
abbrev L5:PE:=.mk [(pc (.setc o6 0 (.mk [pF,(pi 0)])) 0),(pc (.setc o6 0 (.mk [pF,(pi 0)])) 1)]
abbrev L6:PE:=aH (aS (aH (.ai .mul .i64 (pi 12) (.tget eF 0)) (.tget eF 1)) (pi 1)) r1
abbrev lg:PE:=.setc kC 17 pN
abbrev Tp:PE:=.setc (.setc (.setc o9 3 (.tget kE 0)) 4 (.tget kE 1)) 2 (pn (.tget kE 0) (aS (.llen (.tget kE 0)) (pi 1)))
abbrev agf:PE:=.mk [(pc cj 0),(pc cj 1),(pc cj 2),(pc cj 3),(pc cj 4),(pc cj 5),(pc cj 6),(pc cj 7),(pc cj 8),(pc cj 9),(pc cj 10),(pc cj 11),(pc cj 12),(pc cj 13),(pc cj 14),(pc cj 15),(pc cj 16),(.o 73745),(pc cj 18)]
abbrev ye:PE:=pi 9223372036854775807
abbrev nC:PE:=pn r1 (pi 0)
abbrev lQ:PE:=.llen (pc o1 1)
abbrev Tq:PE:=.mk [(pc (.setc o4 0 (.mk [(pi 0),(pi 0),pL])) 0),(pc (.setc o4 0 (.mk [(pi 0),(pi 0),pL])) 1),pL]
abbrev kD:PE:=pn r1 (pi 1)
abbrev BI:PE:=.setc z3 0 (pn bQ bH)
abbrev Tr:PE:=.mk [(pc (.setc cr 0 (.mk [pT,(pi 1)])) 0),(pc (.setc cr 0 (.mk [pT,(pi 1)])) 1)]
abbrev Ts:PE:=.mk [(pc (.setc cr 0 (.mk [pT,(pi 0)])) 0),(pc (.setc cr 0 (.mk [pT,(pi 0)])) 1)]
abbrev nD:PE:=.llen (pc o1 3)
abbrev nE:PE:=.llen (pc o1 2)
abbrev qg:PE:=pi 1099511627776
abbrev agh:PE:=.app (.lst [(.mk [(pi 2),(pi 0),(pi 1),(pi 0),(pi (-1)),(pi 0),(pi 10),(pi 0),(pi 0)])]) (.lst [(.mk [(pi 4),(pi 0),(pi 1),(pi 0),(pi (-1)),(pi 0),r0,(pi 0),r1])])
abbrev Tt:PE:=ah 5 (.setc o8 0 (.mk [(pc bY 0),(pc bY 1),(pc bY 2),(.o 16394),(pc bY 4)]))
abbrev oH:PE:=.llen (pc o3 2)
abbrev oI:PE:=.llen (pc o1 4)
abbrev agi:PE:=.pick (.pick (ae (.tget gY 0) (.con (.v (.int .u64 0)))) (ao (.tget gY 1) (.con (.v (.int .u64 1099511627776)))) pF) (.conv .i64 (.tget gY 1)) qg
abbrev agj:PE:=.pick (.pick (.pick (ao (pc BH 2) (pi 0)) pT (bD (pc BH 2) (.llen (pc (.mk [r0]) 3)))) pT (ao r1 (pi 0))) pT (bD r1 (.llen (pc (.mk [r0]) 4)))
abbrev Tu:PE:=.put (.con (.map [])) (pi 7) (aC (.ai .and .i64 (pc o6 13) (pi 1)) (pi 0))
abbrev oJ:PE:=aH r8 (pi 1)
abbrev oK:PE:=aH r5 (pi 1)
abbrev qh:PE:=.llen (pc o4 4)
abbrev ru:PE:=pc (.mk [r0]) 15
abbrev agk:PE:=.app o2 (.lst [(pc (.setc (.con (.agg [(.v (.string ⟨#[]⟩)),(.int 0),(.int 0),(.list []),(.list []),(.list [])])) 0 (pn bQ bH)) 0)])
abbrev Fm:PE:=aS (pi 2) (pc (pn o7 (pi 0)) 1)
abbrev agl:PE:=.pick (.pick (.pick (.pick (ao r0 (pi 2000)) pT (aP r0 (pi 2300))) pT (ao r1 (pi 1))) pT (aP r1 (pi 12))) pT (ao r2 (pi 1))
abbrev L8:PE:=.setc mG 0 (.sub (pn (pc o2 3) eF) 1 3)
abbrev agm:PE:=.pick (.pick (.pick (ao (pc bY 0) (pi 0)) pT (bD (pc bY 0) (pi 5))) pT (ao (pc bY 2) (pi 0))) pT (bD (pc bY 2) (pi 2))
abbrev oL:PE:=pn o5 (pi 0)
abbrev qj:PE:=aq r1 (pi 1)
abbrev tF:PE:=.tget kG 0
abbrev L9:PE:=.pick (ao r1 (pi 3)) (aS r0 (pi 1)) r0
abbrev agn:PE:=.app o4 (.lst [(pc (.setc (.con (.agg [(.v (.string ⟨#[]⟩)),(.bool false),(.list []),(.list [])])) 0 (pn jd lS)) 0)])
abbrev BJ:PE:=.con (.v (.int .u64 32))
abbrev ago:PE:=.setc (.con (.agg [(.list []),(.list []),(.list []),(.list []),(.list []),(.list []),(.list []),(.list [])])) 0 r9
abbrev agp:PE:=.put (.put (.put LS (pi 11) (aC Fu Fv)) (pi 12) cO) (pi 13) (aC (.ai .and .i64 (pc o8 8) (pi 1)) (pi 0))
abbrev tG:PE:=pn o5 (pi 1)
abbrev yf:PE:=aC (pi 100) (pi 0)
abbrev rv:PE:=aq r1 (pi 0)
abbrev Ma:PE:=.setc z9 0 (pn (pc o5 15) (pc o5 19))
abbrev tH:PE:=aH r3 (pi 1)
abbrev Tv:PE:=.put (.put Tn (pi 3) (pc o6 12)) (pi 4) (pc o8 0)
abbrev agq:PE:=.pick (aP (.llen (pc (pn (pc o1 1) r3) 4)) (pi 70)) pT (aP (.llen (pc (pn (pc o1 1) r3) 5)) (pi 210))
abbrev Mb:PE:=.mk [(pc o1 0),(pc o1 1),(pc o1 2)]
abbrev Fo:PE:=.setc tE 0 (pn eF dV)
abbrev qk:PE:=.llen Fl
abbrev agr:PE:=.app o3 (.lst [(pc (.setc (.con (.agg [(.v (.string ⟨#[]⟩)),(.int 0),(.int 0)])) 0 (pn dV eG)) 0)])
abbrev ags:PE:=.app o4 (.lst [(pc (.setc (.con (.agg [(.int 0),(.int 0),(.int 0),(.list [])])) 0 (pn eG jF)) 0)])
abbrev vl:PE:=pc (.mk [r1]) 1
abbrev vm:PE:=pc (.mk [r0]) 5
abbrev vn:PE:=.llen (pc o1 0)
abbrev agt:PE:=.app (.o 69637) (.lst [(.mk [(pc (.setc z2 0 (pn ql rA)) 0),(pc (.setc z2 0 (pn ql rA)) 1)])])
abbrev Fp:PE:=ao r6 (.llen (pc o2 17))
abbrev Fq:PE:=ao r5 (.llen (pc o2 15))
abbrev Tb:PE:=.setc z9 0 (pn (pc vk 15) (pc (.mk [r1]) 19))
abbrev Tc:PE:=.setc o4 0 (.mk [(pc o9 0),(pc o9 1),(pc o9 2)])
abbrev Fa:PE:=aC (pc o3 22) (pi (-1))
abbrev af1:PE:=.pick (.nt (.nt (.an (.an bH pT) (.nt pF)))) (.app (.o 1000) (.lst [(.tup [r5])])) (.o 1000)
abbrev xS:PE:=pn (pc o3 7) bN
abbrev xT:PE:=.setc cr 0 jE
abbrev af2:PE:=.pick (aP (aH L7 (pi 3)) (pi 12)) (aS (aH L7 (pi 3)) (pi 12)) (aH L7 (pi 3))
abbrev xU:PE:=.llen (pc o1 17)
abbrev af3:PE:=.setc o4 0 (.mk [(pc (.setc cr 0 (.tget iP 0)) 0),(pc (.setc cr 0 (.tget iP 0)) 1)])
abbrev Fb:PE:=.setc z9 0 (pn Fw jH)
abbrev Fc:PE:=.setc z9 0 (pn jE gK)
abbrev Fe:PE:=.mk [iO,jc,Fl]
abbrev Ff:PE:=.app nz (.lst [tF])
abbrev BA:PE:=.rep (pi 5) (pi 0)
abbrev LU:PE:=aS (.llen (pc o3 3)) (pi 1)
abbrev xV:PE:=pn (pc o1 4) r4
abbrev Td:PE:=ae (.sidx r0 r3) (.con (.v (.int .u8 95)))
abbrev xW:PE:=pc (.mk [r1]) 0
abbrev xX:PE:=pc (.mk [r0]) 4
abbrev Te:PE:=.pick (pc tG 0) (pc (pn o5 (pi 2)) 0) pF
abbrev af4:PE:=.pick (.pick (ae (pc BI 0) r1) (aX (pc BI 1) r2) pF) (aX r2 (pc BI 2)) pF
abbrev xY:PE:=.llen (pc o1 7)
abbrev Fg:PE:=.con (.agg [(.int 0)])
abbrev af5:PE:=aH yd (.ai .mul .i64 (pi 400) (.ai .quo .i64 (aH r0 (pi 730425)) (pi 146097)))
abbrev Tf:PE:=.an (bD (pi 5) (pi 0)) (aX (pi 5) cq)
abbrev rp:PE:=pn bH dA
abbrev rq:PE:=pn bW cO
abbrev tC:PE:=ao bH cO
abbrev Tg:PE:=aH (pc o1 17) (pc (.setc j4 0 bQ) 1)
abbrev Th:PE:=.app o5 (.lst [(pc (pn (pc o1 1) r6) 0)])
abbrev Ti:PE:=.app o4 (.lst [(pc (pn (pc o1 3) r5) 0)])
abbrev af7:PE:=.an (.cb .eql (pc nC 0) (pc BG 0)) (.an (ae (pc nC 1) (pc BG 1)) pT)
abbrev xZ:PE:=aH r7 (pi 1)
abbrev x9:PE:=aH r6 (pi 1)
abbrev LW:PE:=.setc o2 0 (.mk [pT,ye])
abbrev BB:PE:=ae nC (pi 1)
abbrev af8:PE:=.setc o6 0 (.mk [pT,(.pick (aC (.tget kE 1) (pi 0)) ye (.tget kE 0))])
abbrev ya:PE:=ao r0 (pi 0)
abbrev Tj:PE:=ae (.ai .rem .i64 r0 (pi 4)) (pi 0)
abbrev Tk:PE:=.pick (bD r0 (pi 0)) (ao r0 r1) pF
abbrev BC:PE:=.llen (pc o3 4)
abbrev BD:PE:=.llen (pc o2 2)
abbrev BE:PE:=.llen (pc o1 5)
abbrev af9:PE:=.setc o4 0 (.mk [(pc (.setc cr 0 Mg) 0),(pc (.setc cr 0 Mg) 1)])
abbrev LY:PE:=aS (.llen nz) (pi 1)
abbrev LZ:PE:=.setc z9 0 (pn gK jG)
abbrev aga:PE:=.setc lP 0 (.mk [(.lst [(pi 1),(pi (-1)),(pi (-1))]),(pi (-1))])
abbrev Tl:PE:=.ai .rem .i64 (pn r8 bN) (pi 100)
abbrev BF:PE:=aH r9 (pi 1)
abbrev Fh:PE:=ah 19 (.mk [r2])
abbrev agb:PE:=.app (.o 77829) (.lst [(.mk [(pc RI 0),(pc RI 1),(pc RI 2)])])
abbrev L1:PE:=ah 4 (.setc z4 0 lh)
end Rm
