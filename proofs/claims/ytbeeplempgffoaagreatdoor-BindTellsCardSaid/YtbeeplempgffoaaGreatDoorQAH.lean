/-
  Shared texts of this claim.
-/
import Derived.Test.YtbeeplempgffoaaGreatDoorQAG
import Derived.Lib.LaidTab
import Derived.Test.YtbeeplempgffoaaGreatDoorProg
set_option linter.unusedSimpArgs false
set_option linter.unusedVariables false
noncomputable section
namespace Cx
open Go Go.RowKit
def bk (n:Int):Prop:=-9223372036854775808≤n∧n≤9223372036854775807
def ints (l:List Int):D:=.list (l.map .int)
theorem aN {n:Int}(h:-9223372036854775808≤n∧n≤9223372036854775807):IntKind.i64.wrap n=n:=by
 simp only[IntKind.wrap,IntKind.signed,IntKind.bits];simp;split<;>omega
theorem DTy.int_inv {k:IntKind}{d:D}(h:DTy (.int k) d):∃n,d=.v (.int k n)∧k.min≤n∧n≤k.max:=by
 cases h with
 |int k n h1 h2=>exact⟨n,rfl,h1,h2⟩
 |other t d h=>exact h.elim
theorem DTy.i64_inv {d:D}(h:DTy (.int .i64) d):∃n,d=.int n∧bk n:=by
 obtain⟨n,rfl,h1,h2⟩:=h.int_inv;exact⟨n,rfl,by simpa [IntKind.min,IntKind.max,IntKind.signed,IntKind.bits] using h1,by simpa [IntKind.min,IntKind.max,IntKind.signed,IntKind.bits] using h2⟩
theorem DTy.bool_inv {d:D}(h:DTy .bool d):∃b,d=.bool b:=by
 cases h with
 |bool b=>exact⟨b,rfl⟩
 |other t d h=>exact h.elim
theorem DTy.slice_inv {e:Ty}{d:D}(h:DTy (.slice e) d):∃xs,d=.list xs∧xs.length≤maxLen∧∀x,x∈xs→DTy e.unf x:=by
 cases h with
 |slice e xs hm h=>exact⟨xs,rfl,hm,h⟩
 |other t d h=>exact h.elim
theorem DTy.agg_inv {ts:List Ty}{d:D}(h:DTy (.agg ts) d):∃ds,d=.agg ds∧DTys ts ds:=by
 cases h with
 |agg ts ds h=>exact⟨ds,rfl,h⟩
 |other t d h=>exact h.elim
theorem DTys.cons_inv {t:Ty}{ts:List Ty}{ds:List D}(h:DTys (t::ts) ds):∃d cw,ds=d::cw∧DTy t d∧DTys ts cw:=by
 cases h with
 |cons h hs=>exact⟨_,_,rfl,h,hs⟩
theorem DTys.nil_inv {ds:List D}(h:DTys [] ds):ds=[]:=by cases h;rfl
theorem jI {α:Type}{enc:α→D}{P:α→Prop}{xs:List D}(h:∀x,x∈xs→∃a,x=enc a∧P a):∃l:List α,xs=l.map enc∧∀a,a∈l→P a:=by
 induction xs with
 |nil=>exact⟨[],rfl,fun _ h=>nomatch h⟩
 |cons x xs ih=>
  obtain⟨l,hl,hp⟩:=ih fun y hy=>h y (fj _ hy);obtain⟨a,ha,pa⟩:=h x (fF ..)
  exact⟨a::l,by rw[hl,ha];rfl,fun b hb=>by
   rcases di.1 hb with e|hb
   ·rw[e];exact pa
   ·exact hp b hb⟩
theorem DTy.ints_inv {d:D}(h:DTy (.slice (.int .i64)) d):∃l:List Int,d=ints l∧l.length≤maxLen∧∀x,x∈l→bk x:=by
 obtain⟨xs,rfl,hm,hx⟩:=h.slice_inv;obtain⟨l,rfl,hl⟩:=jI (enc:=D.int) (P:=bk) fun x hh=>(hx x hh).i64_inv;exact⟨l,rfl,by simpa using hm,hl⟩
section
variable (ρ:Env) (T:cD)
@[simp] theorem aAv (t:Nat):PE.ev ρ (.r t)=ρ.r t:=_root_.id rfl
@[simp] theorem aAs (t:Nat):PE.ev ρ (.o t)=ρ.o t:=_root_.id rfl
@[simp] theorem aAd (d:D):PE.ev ρ (.con d)=d:=_root_.id rfl
@[simp] theorem aAa (e:PE)(i:Nat):PE.ev ρ (.cell e i)=(PE.ev ρ e).c i:=_root_.id rfl
@[simp] theorem aAF (e:PE)(a n:Nat):PE.ev ρ (.sub e a n)=.agg (((PE.ev ρ e).cells.drop a).take n):=_root_.id rfl
@[simp] theorem aAy (e x:PE)(n:Nat):PE.ev ρ (.setc e n x)=.agg (cV (PE.ev ρ e).cells n (PE.ev ρ x).cells):=_root_.id rfl
@[simp] theorem aAl (es:List PE):PE.ev ρ (.mk es)=.agg (PE.evc ρ es):=_root_.id rfl
@[simp] theorem az5 (op:BinOp)(k:IntKind)(x y:PE):PE.ev ρ (.ai op k x y)=.v (.int k (cW op k (PE.ev ρ x).i (PE.ev ρ y).i)):=_root_.id rfl
@[simp] theorem aAb (op:BinOp)(x y:PE):PE.ev ρ (.ci op x y)=.v (.bool (gZ op (PE.ev ρ x).i (PE.ev ρ y).i)):=_root_.id rfl
@[simp] theorem az9 (op:BinOp)(x y:PE):PE.ev ρ (.cb op x y)=.v (.bool (vg op (PE.ev ρ x).b (PE.ev ρ y).b)):=_root_.id rfl
@[simp] theorem aAf (op:BinOp)(x y:PE):PE.ev ρ (.cs op x y)=.v (.bool (vh op (PE.ev ρ x).s (PE.ev ρ y).s)):=_root_.id rfl
@[simp] theorem aAq (x:PE):PE.ev ρ (.nt x)=.v (.bool (!(PE.ev ρ x).b)):=_root_.id rfl
@[simp] theorem aAe (k:IntKind)(x:PE):PE.ev ρ (.conv k x)=.v (.int k (k.wrap (PE.ev ρ x).i)):=_root_.id rfl
@[simp] theorem aAt (c a b:PE):PE.ev ρ (.pick c a b)=if(PE.ev ρ c).b=true then PE.ev ρ a else PE.ev ρ b:=by
  simp only[PE.ev];cases(PE.ev ρ c).b<;>rfl
@[simp] theorem aAm (n:Nat)(e:PE):PE.ev ρ (ar n e)=gX n (PE.ev ρ e):=aiH ρ n e
@[simp] theorem az8 (x:PE):PE.ev ρ (.bytes x)=.list ((PE.ev ρ x).s.data.toList.map fun b=>.v (.int .u8 b.toNat)):=_root_.id rfl
@[simp] theorem aAi (x:PE):PE.ev ρ (.llen x)=.v (.int .i64 (PE.ev ρ x).l.length):=_root_.id rfl
@[simp] theorem aAC (x:PE):PE.ev ρ (.slen x)=.v (.int .i64 (PE.ev ρ x).s.size):=_root_.id rfl
@[simp] theorem aAn (x:PE):PE.ev ρ (.mlen x)=.v (.int .i64 (PE.ev ρ x).m.length):=_root_.id rfl
@[simp] theorem aAr (x i:PE):PE.ev ρ (.nth x i)=(PE.ev ρ x).l.getD (PE.ev ρ i).i.toNat .none:=_root_.id rfl
@[simp] theorem aAh (x i:PE):PE.ev ρ (.idx x i)=.v (.bool (decide (0≤(PE.ev ρ i).i∧(PE.ev ρ i).i<(PE.ev ρ x).l.length))):=_root_.id rfl
@[simp] theorem aAz (x i y:PE)(n:Nat):PE.ev ρ (.setn x i n y)=.list ((PE.ev ρ x).l.set (PE.ev ρ i).i.toNat (sv ((PE.ev ρ x).l.getD (PE.ev ρ i).i.toNat .none) n (PE.ev ρ y))):=_root_.id rfl
@[simp] theorem az7 (x y:PE):PE.ev ρ (.app x y)=.list ((PE.ev ρ x).l++(PE.ev ρ y).l):=_root_.id rfl
@[simp] theorem aAk (es:List PE):PE.ev ρ (.lst es)=.list (PE.evs ρ es):=_root_.id rfl
@[simp] theorem aAx (x y:PE):PE.ev ρ (.rep x y)=.list (List.replicate (PE.ev ρ x).i.toNat (PE.ev ρ y)):=_root_.id rfl
@[simp] theorem aAB (x a b:PE):PE.ev ρ (.slc x a b)=.list (((PE.ev ρ x).l.take (PE.ev ρ b).i.toNat).drop (PE.ev ρ a).i.toNat):=_root_.id rfl
@[simp] theorem aAD (x a b:PE):PE.ev ρ (.slok x a b)=.v (.bool (decide (0≤(PE.ev ρ a).i∧(PE.ev ρ a).i≤(PE.ev ρ b).i∧(PE.ev ρ b).i≤(PE.ev ρ x).l.length))):=_root_.id rfl
@[simp] theorem aAw (x:PE):PE.ev ρ (.ref x)=.ref (PE.ev ρ x):=_root_.id rfl
@[simp] theorem aAg (x:PE):PE.ev ρ (.deref x)=(PE.ev ρ x).deref:=_root_.id rfl
@[simp] theorem aAj (m k z:PE):PE.ev ρ (.look m k z)=(dO (PE.ev ρ k) (PE.ev ρ m).m).getD (PE.ev ρ z):=_root_.id rfl
@[simp] theorem aAu (m k v:PE):PE.ev ρ (.put m k v)=.map (dG (PE.ev ρ k) (PE.ev ρ v) (PE.ev ρ m).m):=_root_.id rfl
@[simp] theorem aAo (x y:PE):PE.ev ρ (.mn x y)=if(PE.ev ρ y).i<(PE.ev ρ x).i then PE.ev ρ y else PE.ev ρ x:=by
  simp only[PE.ev];by_cases h:(PE.ev ρ y).i<(PE.ev ρ x).i<;>simp[h]
@[simp] theorem aAp (x y:PE):PE.ev ρ (.mx x y)=if(PE.ev ρ y).i>(PE.ev ρ x).i then PE.ev ρ y else PE.ev ρ x:=by
  simp only[PE.ev];by_cases h:(PE.ev ρ y).i>(PE.ev ρ x).i<;>simp[h]
@[simp] theorem aAH (es:List PE):PE.ev ρ (.tup es)=.tup (PE.evs ρ es):=_root_.id rfl
@[simp] theorem aAG (x:PE)(i:Nat):PE.ev ρ (.tget x i)=(PE.ev ρ x).tget i:=_root_.id rfl
@[simp] theorem aAc (f:Nat)(es:List PE):PE.ev ρ (.clo f es)=.clo f (PE.evs ρ es):=_root_.id rfl
@[simp] theorem az6 (x y:PE):PE.ev ρ (.an x y)=.v (.bool ((PE.ev ρ x).b&&(PE.ev ρ y).b)):=_root_.id rfl
@[simp] theorem aAL:PE.evs ρ []=[]:=_root_.id rfl
@[simp] theorem aAK (e:PE)(es:List PE):PE.evs ρ (e::es)=PE.ev ρ e::PE.evs ρ es:=_root_.id rfl
@[simp] theorem aAJ:PE.evc ρ []=[]:=_root_.id rfl
@[simp] theorem aAI (e:PE)(es:List PE):PE.evc ρ (e::es)=(PE.ev ρ e).cells++PE.evc ρ es:=_root_.id rfl
@[simp] theorem Xy (x:Bool):(D.bool x).b=x:=_root_.id rfl
@[simp] theorem azZ (k:IntKind)(n:Int):(D.v (.int k n)).i=n:=_root_.id rfl
@[simp] theorem Xz (n:Int):(D.int n).i=n:=_root_.id rfl
@[simp] theorem azU (x:List D):(D.list x).l=x:=_root_.id rfl
@[simp] theorem azS (l:List Int):(ints l).l=l.map .int:=_root_.id rfl
@[simp] theorem azV (x:List (D×D)):(D.map x).m=x:=_root_.id rfl
@[simp] theorem azJ (x:List D)(i:Nat):(D.agg x).c i=x.getD i .none:=_root_.id rfl
@[simp] theorem azK (x:List D):(D.agg x).cells=x:=_root_.id rfl
@[simp] theorem azT (x:List D):(D.list x).cells=[.list x]:=_root_.id rfl
@[simp] theorem azR (x:List Int):(ints x).cells=[ints x]:=_root_.id rfl
@[simp] theorem azO (n:Int):(D.int n).cells=[.int n]:=_root_.id rfl
@[simp] theorem azL (n:Bool):(D.bool n).cells=[.bool n]:=_root_.id rfl
@[simp] theorem azY (x:Value):(D.v x).cells=[.v x]:=_root_.id rfl
@[simp] theorem azX (x:List D)(i:Nat):(D.tup x).tget i=x.getD i .none:=_root_.id rfl
@[simp] theorem azW (x:D):(D.ref x).deref=x:=_root_.id rfl
@[simp] theorem aCI (s:SE)(t:Nat):(s.ev ρ).r t=PE.ev ρ (s.getR t):=_root_.id rfl
@[simp] theorem aCH (s:SE)(t:Nat):(s.ev ρ).o t=PE.ev ρ (s.getO t):=_root_.id rfl
@[simp] theorem aAU (o:List (Nat×PE))(u:Nat):SE.getR ⟨[],o⟩ u=.r u:=_root_.id rfl
@[simp] theorem aAT (t:Nat)(e:PE)(r o:List (Nat×PE))(u:Nat):SE.getR ⟨(t,e)::r,o⟩ u=if t=u then e else SE.getR ⟨r,o⟩ u:=by
  simp only[SE.getR,bP];by_cases h:t=u
  ·subst h;simp
  ·simp[fQ h,h]
@[simp] theorem aAS (r:List (Nat×PE))(u:Nat):SE.getO ⟨r,[]⟩ u=.o u:=_root_.id rfl
@[simp] theorem aAR (t:Nat)(e:PE)(r o:List (Nat×PE))(u:Nat):SE.getO ⟨r,(t,e)::o⟩ u=if t=u then e else SE.getO ⟨r,o⟩ u:=by
  simp only[SE.getO,bP];by_cases h:t=u
  ·subst h;simp
  ·simp[fQ h,h]
@[simp] theorem setR_r (t u:Nat)(d:D):(ρ.setR t d).r u=if u=t then d else ρ.r u:=Env.setR_r ρ t u d
@[simp] theorem aCO (t u:Nat)(d:D):(ρ.setR t d).o u=ρ.o u:=_root_.id rfl
@[simp] theorem setO_o (t u:Nat)(d:D):(ρ.setO t d).o u=if u=t then d else ρ.o u:=Env.setO_o ρ t u d
@[simp] theorem aCN (t u:Nat)(d:D):(ρ.setO t d).r u=ρ.r u:=_root_.id rfl
@[simp] theorem aCA (lr lo:List Nat)(vr vo:List D)(u:Nat):(ρ.put lr vr lo vo).r u=putL ρ.r lr vr u:=_root_.id rfl
@[simp] theorem aCz (lr lo:List Nat)(vr vo:List D)(u:Nat):(ρ.put lr vr lo vo).o u=putL ρ.o lo vo u:=_root_.id rfl
@[simp] theorem join_r (ρ':Env)(lr lo:List Nat)(u:Nat):(ρ.join lr lo ρ').r u=if u∈lr then ρ'.r u else ρ.r u:=Env.join_r ρ ρ' lr lo u
@[simp] theorem join_o (ρ':Env)(lr lo:List Nat)(u:Nat):(ρ.join lr lo ρ').o u=if u∈lo then ρ'.o u else ρ.o u:=Env.join_o ρ ρ' lr lo u
@[simp] theorem aCx (f:Nat→D)(i:Nat)(is:List Nat)(x:D)(xs:List D)(u:Nat):putL f (i::is) (x::xs) u=if u=i then x else putL f is xs u:=J2 f i is x xs u
@[simp] theorem aCy (f:Nat→D)(xs:List D)(u:Nat):putL f [] xs u=f u:=J3 f xs u
@[simp] theorem az2 (ds:List D)(u:Nat):(l8 ds).r u=ds.getD u .none:=_root_.id rfl
@[simp] theorem aBr:holds [] ρ=true:=_root_.id rfl
@[simp] theorem aBq (g:Nat×Bool)(gs:List (Nat×Bool)):holds (g::gs) ρ=((ρ.r g.1).b==g.2&&holds gs ρ):=_root_.id rfl
variable (Q:Out→Prop)
@[simp] theorem aDu (s:SE):aE T (.next s) ρ Q=Q (.next (s.ev ρ)):=_root_.id rfl
@[simp] theorem aDr (id:Nat)(s:SE):aE T (.exit id s) ρ Q=Q (.exit id (s.ev ρ)):=_root_.id rfl
@[simp] theorem aDv (e:PE):aE T (.ret e) ρ Q=Q (.ret (e.ev ρ)):=_root_.id rfl
@[simp] theorem aDq (e:PE)(k:PT):aE T (.chk e k) ρ Q=((e.ev ρ).b=true∧aE T k ρ Q):=_root_.id rfl
@[simp] theorem aDs (c:PE)(a b:PT):aE T (.ite c a b) ρ Q=if(c.ev ρ).b=true then aE T a ρ Q else aE T b ρ Q:=_root_.id rfl
@[simp] theorem aDo (s:SE)(gs:List (Nat×Bool))(dst f:Nat)(args:List PE)(k:PT):aE T (.call s gs dst f args k) ρ Q=if holds gs (s.ev ρ)=true then ∃d,aj T f (PE.evs ρ args) d∧aE T k ((s.ev ρ).setR dst d) Q else aE T k (s.ev ρ) Q:=_root_.id rfl
@[simp] theorem aDt (s:SE)(c:PE)(lr lo:List Nat)(a b k:PT):aE T (.iteS s c lr lo a b k) ρ Q=if(c.ev ρ).b=true then aE T a (s.ev ρ) (j7 (s.ev ρ) lr lo (gy (fun ρ'=>aE T k ρ' Q) Q)) else aE T b (s.ev ρ) (j7 (s.ev ρ) lr lo (gy (fun ρ'=>aE T k ρ' Q) Q)):=_root_.id rfl
@[simp] theorem aDm (s:SE)(id:Nat)(lr lo:List Nat)(a k:PT):aE T (.blockS s id lr lo a k) ρ Q=aE T a (s.ev ρ) (lg (s.ev ρ) id lr lo (gy (fun ρ'=>aE T k ρ' Q) Q)):=_root_.id rfl
@[simp] theorem aDn (s:SE)(c:PC)(k:PT):aE T (.brk s c k) ρ Q=aH T c (s.ev ρ) (gy (fun ρ'=>aE T k ρ' Q) Q):=_root_.id rfl
variable (K:Env→Prop) (id:Nat) (lr lo bH bG:List Nat) (K2:List D→List D→Prop)
@[simp] theorem aCL (ρ':Env):gy K Q (.next ρ')=K ρ':=_root_.id rfl
@[simp] theorem aCK (i:Nat)(ρ':Env):gy K Q (.exit i ρ')=Q (.exit i ρ'):=_root_.id rfl
@[simp] theorem aCM (d:D):gy K Q (.ret d)=Q (.ret d):=_root_.id rfl
@[simp] theorem aBI (ρ':Env):j7 ρ lr lo Q (.next ρ')=Q (.next (ρ.join lr lo ρ')):=_root_.id rfl
@[simp] theorem aBJ (d:D):j7 ρ lr lo Q (.ret d)=Q (.ret d):=_root_.id rfl
@[simp] theorem azr (ρ':Env):lg ρ id lr lo Q (.next ρ')=Q (.next (ρ.join lr lo ρ')):=_root_.id rfl
@[simp] theorem azq (i:Nat)(ρ':Env):lg ρ id lr lo Q (.exit i ρ')=if i=id then Q (.next (ρ.join lr lo ρ')) else Q (.exit i ρ'):=_root_.id rfl
@[simp] theorem azs (d:D):lg ρ id lr lo Q (.ret d)=Q (.ret d):=_root_.id rfl
@[simp] theorem aCE (ρ':Env):eY ρ id bH bG lr lo K2 Q (.next ρ')=K2 (lr.map ρ'.r) (lo.map ρ'.o):=_root_.id rfl
@[simp] theorem aCD (i:Nat)(ρ':Env):eY ρ id bH bG lr lo K2 Q (.exit i ρ')=if i=id then Q (.next (ρ.put bH (bH.map ρ'.r) bG (bG.map ρ'.o))) else Q (.exit i ρ'):=_root_.id rfl
@[simp] theorem aCF (d:D):eY ρ id bH bG lr lo K2 Q (.ret d)=Q (.ret d):=_root_.id rfl
@[simp] theorem aDp (s:SE)(gs:List (Nat×Bool))(dst:Nat)(e:PE)(args:List PE)(k:PT):aE T (.callc s gs dst e args k) ρ Q=if holds gs (s.ev ρ)=true then ∃f caps d,e.ev ρ=.clo f caps∧aj T f (PE.evs ρ args++caps) d∧aE T k ((s.ev ρ).setR dst d) Q else aE T k (s.ev ρ) Q:=_root_.id rfl
@[simp] theorem az0 (rt:Option PE)(K3:List D→Prop)(i:Nat)(ρ':Env):sW ρ lo rt K3 Q (.exit i ρ')=if i=cL then ∃e,rt=some e∧Q (.ret (e.ev (ρ.put [] [] lo (lo.map ρ'.o)))) else Q (.exit i (ρ.put [] [] lo (lo.map ρ'.o))):=_root_.id rfl
@[simp] theorem az3 (J:Nat)(ds:List D)(u:Nat):(zf J ds).r u=(D.none::ds).getD u .none:=_root_.id rfl
theorem aiF (J:Nat)(ds:List D)(u:Nat):(zf J ds).o u=if u=J then .list [] else .none:=by
 show(bif Nat.beq u J then D.list [] else .none)=_;by_cases h:u=J
 ·subst h;simp
 ·simp[fQ h,h]
@[simp] theorem aCv (p:Nat)(x:D):partsOf [p] x=[x.tget 0]:=_root_.id rfl
end
section
variable (k:IntKind) (a b:Int)
@[simp] theorem azj:cW .add k a b=k.wrap (a+b):=_root_.id rfl
@[simp] theorem azn:cW .sub k a b=k.wrap (a-b):=_root_.id rfl
@[simp] theorem azk:cW .mul k a b=k.wrap (a*b):=_root_.id rfl
@[simp] theorem azl:cW .quo k a b=k.wrap (a.tdiv b):=_root_.id rfl
@[simp] theorem azm:cW .rem k a b=a.tmod b:=_root_.id rfl
@[simp] theorem azB:gZ .eql a b=(a==b):=_root_.id rfl
@[simp] theorem azG:gZ .neq a b=(a !=b):=_root_.id rfl
@[simp] theorem azF:gZ .lss a b=decide (a<b):=_root_.id rfl
@[simp] theorem azE:gZ .leq a b=decide (a≤b):=_root_.id rfl
@[simp] theorem azD:gZ .gtr a b=decide (a>b):=_root_.id rfl
@[simp] theorem azC:gZ .geq a b=decide (a≥b):=_root_.id rfl
variable (x y:Bool)
@[simp] theorem azu:vg .eql x y=(x==y):=_root_.id rfl
@[simp] theorem azv:vg .neq x y=(!(x==y)):=_root_.id rfl
end
theorem aj.of_tree {tab:Nat→Option PC}{ext:Nat→Option (aR→List D→Option D)}{f:Nat}{pc:PC}{t:PT}{ds:List D}{d:D}(hx:ext f=none)(ht:tab f=some pc)(he:tree pc=t)(h:aE (fb tab ext) t (l8 ds) (fun x=>x=.ret d)):aj (fb tab ext) f ds d:=
 .of_pc hx ht (Lz (he▸h))
@[simp] theorem azQ (n:Int):D.v (.int .i64 n)=D.int n:=_root_.id rfl
@[simp] theorem azN (b:Bool):D.v (.bool b)=D.bool b:=_root_.id rfl
@[simp] theorem azP (a b:Int):(D.int a=D.int b)=(a=b):=by
  apply propext;constructor
  ·intro h;injection h with h;injection h
  ·intro h;rw[h]
@[simp] theorem azM (a b:Bool):(D.bool a=D.bool b)=(a=b):=by
  apply propext;constructor
  ·intro h;injection h with h;injection h
  ·intro h;rw[h]
section
variable (c:Prop) [Decidable c] (x y:D)
@[simp] theorem aBG:(if c then x else y).b=if c then x.b else y.b:=by split<;>rfl
@[simp] theorem aBH:(if c then x else y).i=if c then x.i else y.i:=by split<;>rfl
end
@[simp] theorem aDw:IntKind.i64.wrap 1=1:=aN (by omega)
@[simp] theorem aDx:IntKind.i64.wrap 0=0:=aN (by omega)
end Cx
namespace Cx
open Go
inductive Tm where
 |mk (op n:Int) (args:List Tm)
instance:Inhabited Tm:=⟨.mk 0 0 []⟩
namespace Tm
def op:Tm→Int|.mk o _ _=>o
def n:Tm→Int|.mk _ n _=>n
def args:Tm→List Tm|.mk _ _ aa=>aa
end Tm
mutual
def cR:Tm→D
 |.mk o n aa=>.agg [.int o,.int n,.list (Ib aa)]
def Ib:List Tm→List D
 |[]=>[]
 |t::ts=>cR t::Ib ts
end
theorem NC:∀l:List Tm,Ib l=l.map cR
 |[]=>rfl
 |t::l=>by rw[Ib,NC l];rfl
theorem Cj (t:Tm):cR t=.agg [.int t.op,.int t.n,.list (t.args.map cR)]:=by
 cases t with
 |mk o n aa=>rw[cR,NC];rfl
inductive Tm.OK:Tm→Prop where
 |mk (o n:Int) (aa:List Tm) (h1:bk o) (h2:bk n) (h3:aa.length≤maxLen) (h:∀a,a∈aa→Tm.OK a):Tm.OK (.mk o n aa)
theorem DTy.trm_inv {d:D}(h:DTy .trmA d):∃t:Tm,d=cR t∧t.OK:=by
 suffices hs:∀(m:Nat) (d:D),sizeOf d≤m→DTy .trmA d→∃t:Tm,d=cR t∧t.OK from hs _ d (bJ _) h
 intro m
 induction m with
 |zero=>
  intro d hm h;cases d<;>simp at hm
 |succ m ih=>
  intro d hm h;obtain⟨ds,rfl,hs⟩:=DTy.agg_inv h;obtain⟨d1,ds,rfl,h1,hs⟩:=hs.cons_inv;obtain⟨d2,ds,rfl,h2,hs⟩:=hs.cons_inv;obtain⟨d3,ds,rfl,h3,hs⟩:=hs.cons_inv;obtain rfl:=hs.nil_inv;obtain⟨o,rfl,b1⟩:=h1.i64_inv;obtain⟨n,rfl,b2⟩:=h2.i64_inv;obtain⟨xs,rfl,hl,hx⟩:=h3.slice_inv
  obtain⟨l,rfl,az⟩:=jI (enc:=cR) (P:=Tm.OK) fun x hh=>ih x (by
   have:=List.sizeOf_lt_of_mem hh;simp at hm;omega) (hx x hh)
  exact⟨.mk o n l,by rw[cR,NC],.mk o n l b1 b2 (by simpa using hl) az⟩
theorem DTy.trms_inv {d:D}(h:DTy (.slice .trm) d):∃l:List Tm,d=.list (l.map cR)∧l.length≤maxLen∧∀t,t∈l→t.OK:=by
 obtain⟨xs,rfl,hl,hx⟩:=h.slice_inv;obtain⟨l,rfl,az⟩:=jI (enc:=cR) (P:=Tm.OK) fun x hh=>DTy.trm_inv (hx x hh);exact⟨l,rfl,by simpa using hl,az⟩
end Cx
namespace Cx
open Go
def Tg (g:Nat)(zs:List Int):Nat→Option (Ty×D):=fun k=>bif Nat.beq k g then some (.agg (zs.map fun _=>.int .i64),.agg (zs.map fun z=>.v (.int .i64 z))) else none
theorem asS {C:Ctx}{g:Nat}{zs:List Int}{name:String}{W:World}(hC:C.glob=Tg g zs)(hg:C.P.globalNamed name=some g)(hz:zs.all (fun z=>decide (IntKind.i64.min≤z)&&decide (z≤IntKind.i64.max))=true)
 (h:Lib.TabIs C.P W name .i64 zs):CtxOK C (mz W):=by
 refine⟨fun k x hx=>?_⟩;rw[hC] at hx;unfold Tg at hx;cases hk:Nat.beq k g<;>simp only[hk,cond_true,cond_false] at hx
 ·cases hx
 cases hx;obtain rfl:=aG hk
 have C5:Rep C.cap (mz W) (.agg (zs.map fun _=>.int .i64)) (.agg (zs.map fun z=>Value.int .i64 z).toArray) (.agg (zs.map fun z=>.v (.int .i64 z))):=by
  refine .agg _ _ _ (by simp) (by simp) (fun i t ht=>?_) (fun i t ht=>?_)
  ·rw[dm,aK] at ht;obtain⟨z,v7,rfl⟩:=ht;rw[be,be,dm,dm,v7];have:=eQ.1 hz z (sH v7);simp only[ay,decide_eq_true_eq] at this;exact .int _ _ this.1 this.2
  ·rw[dm,aK] at ht;obtain⟨z,_,rfl⟩:=ht;rfl
 refine .ref _ k 0 _ _ C5 fun j u hu=>?_;simp only[Value.cells,FK,dm,aK] at hu;obtain⟨z,v7,rfl⟩:=hu;have aq:=(iu.1 v7).1;have:=h.cell hg j aq;show W.cell? ⟨k,0+j,none⟩=_;rw[lV,this,be,v7];rfl
end Cx
namespace Cx
open Go Go.RowKit
def loops:PC→List PC
 |.seq a b=>loops a++loops b
 |.ite _ _ _ a b=>loops a++loops b
 |.block id lr lo (.loop Py Pt a)=>loops a++[.block id lr lo (.loop Py Pt a)]
 |.block _ _ _ a=>loops a
 |.loop _ _ a=>loops a
 |.each e ps lo rt a=>loops a++[.each e ps lo rt a]
 |.meach J ps cY lo a=>loops a++[.meach J ps cY lo a]
 |_=>[]
def Nh:PC→PC
 |.block _ _ _ (.loop _ _ a)=>a
 |.each _ _ _ _ a=>a
 |.meach _ _ _ _ a=>a
 |_=>.skip
def Jl (c:PC)(k:Nat):PC:=(loops c).getD k .skip
def rnd:PC→PT
 |.block id lr lo (.loop Py Pt a)=>round id lr lo Py Pt a
 |.each _ _ lo _ a=>oZ lo a
 |.meach _ _ _ lo a=>oZ lo a
 |_=>.next .id
inductive Shp where
 |lp (id:Nat) (bH bG lr lo:List Nat)
 |ea (lo:List Nat)
 |no
def AZ:PC→Shp
 |.block id bH bG (.loop lr lo _)=>.lp id bH bG lr lo
 |.each _ _ lo _ _=>.ea lo
 |.meach _ _ _ lo _=>.ea lo
 |_=>.no
def told (c:PC):PT×List (Shp×PT):=(tree c,(loops c).map fun l=>(AZ l,rnd l))
theorem Li {o:Option PC}{t:PT}{l:List (Shp×PT)}(h:o.map told=some (t,l)):o=some (o.getD .skip)∧tree (o.getD .skip)=t∧∀k x,l[k]?=some x→(AZ (Jl (o.getD .skip) k),rnd (Jl (o.getD .skip) k))=x:=by
 cases o with
 |none=>cases h
 |some c=>
  have h1:told c=(t,l):=by injection h
  unfold told at h1;injection h1 with h1 h2
  refine⟨rfl,h1,fun k x hx=>?_⟩;subst h2;simp only[dm,aK] at hx;obtain⟨y,hy,rfl⟩:=hx;have:Jl ((some c:Option PC).getD .skip) k=y:=by
   show(loops c).getD k .skip=y;rw[be,hy];rfl
  rw[this]
theorem arJ {c:PC}{id:Nat}{bH bG lr lo:List Nat}{t:PT}(h:(AZ c,rnd c)=(.lp id bH bG lr lo,t)):round id bH bG lr lo (Nh c)=t:=by
 injection h with h1 h2
 subst h2;unfold AZ at h1;split at h1
 ·cases h1;rfl
 all_goals cases h1
theorem ais {c:PC}{lo:List Nat}{t:PT}(h:(AZ c,rnd c)=(.ea lo,t)):oZ lo (Nh c)=t:=by
 injection h with h1 h2
 subst h2;unfold AZ at h1;split at h1
 ·cases h1
 ·cases h1;rfl
 ·cases h1;rfl
 ·cases h1
def cE {α:Type}(x:α):α:=Classical.choose (⟨x,rfl⟩:∃y,y=x)
theorem zH {α:Type}(x:α):cE x=x:=Classical.choose_spec (⟨x,rfl⟩:∃y,y=x)
def aV (o:Option PC):Nat→PC:=fun k=>Nh (Jl (o.getD .skip) k)
abbrev ab (o:Option PC):PC:=cE (o.getD .skip)
abbrev bf (o:Option PC):Nat→PC:=cE (aV o)
section
variable {o:Option PC} {F:(Nat→PC)→PT×List (Shp×PT)}
theorem as7 (h:o.map told=some (F (aV o))):o=some (ab o):=by unfold ab;rw[zH];exact(Li (t:=(F (aV o)).1) (l:=(F (aV o)).2) h).1
theorem bz (h:o.map told=some (F (aV o))):tree (ab o)=(F (bf o)).1:=by unfold ab bf;rw[zH,zH];exact(Li (t:=(F (aV o)).1) (l:=(F (aV o)).2) h).2.1
theorem aQ (h:o.map told=some (F (aV o)))(k:Nat){id:Nat}{bH bG lr lo:List Nat}{t:(Nat→PC)→PT}(hk:∀b,(F b).2[k]?=some (.lp id bH bG lr lo,t b)):round id bH bG lr lo (bf o k)=t (bf o):=by
 unfold bf;rw[zH];exact arJ ((Li (t:=(F (aV o)).1) (l:=(F (aV o)).2) h).2.2 k _ (hk _))
theorem Tn (h:o.map told=some (F (aV o)))(k:Nat){lo:List Nat}{t:(Nat→PC)→PT}(hk:∀b,(F b).2[k]?=some (.ea lo,t b)):oZ lo (bf o k)=t (bf o):=by
 unfold bf;rw[zH];exact ais ((Li (t:=(F (aV o)).1) (l:=(F (aV o)).2) h).2.2 k _ (hk _))
theorem asH (h:o.isSome=true):o=some (ab o):=by unfold ab;rw[zH];cases o with|none=>cases h|some c=>rfl
end
theorem av {α:Type}{R:Nat→α→Prop}{f:Nat}{x:α}{l:List (Nat×α)}(h:R f x)(k:FD R l):FD R ((f,x)::l):=⟨h,k⟩
theorem aau {α:Type}:∀{l:List (Nat×α)},(l.map (·.1)).Nodup→∀{k f:Nat} {x:α},l[k]?=some (f,x)→bP l f=some x
 |[],_,k,f,x,h=>by simp at h
 |y::l,hn,0,f,x,h=>by
  simp only[LY,bp] at h;subst h;simp[bP]
 |y::l,hn,k+1,f,x,h=>by
  simp only[WC] at h;rw[iX,sI] at hn;have hm:f∈l.map (·.1):=eR.2 ⟨(f,x),sH h,rfl⟩;have hb:Nat.beq y.1 f=false:=by
   cases e:Nat.beq y.1 f with
   |false=>rfl
   |true=>rw[dj e] at hn;exact absurd hm hn.1
  simp only[bP,hb,cond_false];exact aau hn.2 h
abbrev pT:PE:=.con (.bool true)
abbrev pF:PE:=.con (.bool false)
abbrev pN:PE:=.con .none
abbrev pL:PE:=.con (.list [])
abbrev pi (n:Int):PE:=.con (.int n)
abbrev aD (a b:PE):PE:=.ai .add .i64 a b
abbrev aY (a b:PE):PE:=.ai .sub .i64 a b
abbrev ak (a b:PE):PE:=.ci .eql a b
abbrev aP (a b:PE):PE:=.ci .neq a b
abbrev ah (a b:PE):PE:=.ci .lss a b
abbrev aX (a b:PE):PE:=.ci .leq a b
abbrev bj (a b:PE):PE:=.ci .gtr a b
abbrev bN (a b:PE):PE:=.ci .geq a b
abbrev pc (a:PE)(i:Nat):PE:=.cell a i
abbrev pn (a b:PE):PE:=.nth a b
abbrev ao (a b:PE):PE:=.idx a b
abbrev z2:PE:=.con (.agg [(.int 0),(.int 0)])
abbrev z3:PE:=.con (.agg [(.int 0),(.int 0),(.int 0)])
abbrev z4:PE:=.con (.agg [(.int 0),(.int 0),(.int 0),(.int 0)])
abbrev z5:PE:=.con (.agg [(.int 0),(.int 0),(.int 0),(.int 0),(.int 0)])
abbrev z6:PE:=.con (.agg [(.int 0),(.int 0),(.int 0),(.int 0),(.int 0),(.int 0)])
abbrev z9:PE:=.con (.agg [(.int 0),(.int 0),(.int 0),(.int 0),(.int 0),(.int 0),(.int 0),(.int 0),(.int 0)])
abbrev Wo:PE:=.con (.agg [(.int 0),(.int 0),(.int 0),(.int 0),(.int 0),(.int 0),(.int 0),(.int 0),(.int 0),(.int 0),(.int 0),(.int 0),(.int 0),(.int 0),(.int 0)])
abbrev r0:PE:=.r 0
abbrev r1:PE:=.r 1
abbrev r2:PE:=.r 2
abbrev r3:PE:=.r 3
abbrev r4:PE:=.r 4
abbrev r5:PE:=.r 5
abbrev r6:PE:=.r 6
abbrev r7:PE:=.r 7
abbrev r8:PE:=.r 8
abbrev r9:PE:=.r 9
abbrev bY:PE:=.r 10
abbrev bK:PE:=.r 11
abbrev bR:PE:=.r 12
abbrev cU:PE:=.r 13
abbrev ct:PE:=.r 14
abbrev dx:PE:=.r 15
abbrev dk:PE:=.r 16
abbrev gf:PE:=.r 17
abbrev ij:PE:=.r 18
abbrev fA:PE:=.r 19
abbrev eA:PE:=.r 20
abbrev fB:PE:=.r 21
abbrev AJ:PE:=.r 22
abbrev gx:PE:=.r 23
abbrev nC:PE:=.r 24
abbrev eB:PE:=.r 25
abbrev mL:PE:=.r 26
abbrev eC:PE:=.r 27
abbrev nD:PE:=.r 28
abbrev kL:PE:=.r 29
abbrev nE:PE:=.r 30
abbrev kM:PE:=.r 31
abbrev lI:PE:=.r 32
abbrev mM:PE:=.r 33
abbrev D8:PE:=.r 34
abbrev nF:PE:=.r 35
abbrev il:PE:=.r 36
abbrev nG:PE:=.r 37
abbrev iQ:PE:=.r 38
abbrev uf:PE:=.r 39
abbrev lJ:PE:=.r 40
abbrev qg:PE:=.r 41
abbrev r42:PE:=.r 42
abbrev rZ:PE:=.r 43
abbrev w6:PE:=.r 44
abbrev kN:PE:=.r 45
abbrev D9:PE:=.r 46
abbrev r47:PE:=.r 47
abbrev kf:PE:=.r 48
abbrev nH:PE:=.r 49
abbrev nI:PE:=.r 50
abbrev r51:PE:=.r 51
abbrev sc:PE:=.r 52
abbrev r53:PE:=.r 53
abbrev sd:PE:=.r 54
abbrev ug:PE:=.r 55
abbrev oV:PE:=.r 56
abbrev Kk:PE:=.r 57
abbrev AK:PE:=.r 58
abbrev RD:PE:=.r 59
abbrev uh:PE:=.r 60
abbrev Kl:PE:=.r 61
abbrev qh:PE:=.r 62
abbrev w7:PE:=.r 63
abbrev AL:PE:=.r 64
abbrev Km:PE:=.r 65
abbrev RE:PE:=.r 66
abbrev qj:PE:=.r 67
abbrev Ea:PE:=.r 68
abbrev qk:PE:=.r 69
abbrev RF:PE:=.r 72
abbrev ql:PE:=.r 73
abbrev Ko:PE:=.r 74
abbrev Eb:PE:=.r 75
abbrev qm:PE:=.r 76
abbrev r77:PE:=.r 77
abbrev r78:PE:=.r 78
abbrev RG:PE:=.r 79
abbrev ui:PE:=.r 80
abbrev w8:PE:=.r 81
abbrev jO:PE:=.r 82
abbrev Ec:PE:=.r 85
abbrev RH:PE:=.r 86
abbrev r87:PE:=.r 87
abbrev se:PE:=.r 88
abbrev r89:PE:=.r 89
abbrev r91:PE:=.r 91
abbrev RI:PE:=.r 92
abbrev RJ:PE:=.r 93
abbrev r94:PE:=.r 94
abbrev r96:PE:=.r 96
abbrev RK:PE:=.r 97
abbrev r99:PE:=.r 99
abbrev adP:PE:=.r 103
abbrev aqV:PE:=.r 104
abbrev adQ:PE:=.r 106
abbrev D5:PE:=.r 108
abbrev D6:PE:=.r 112
abbrev adR:PE:=.r 113
abbrev adS:PE:=.r 119
abbrev adU:PE:=.r 120
abbrev adV:PE:=.r 126
abbrev adW:PE:=.r 127
abbrev o0:PE:=.o 0
abbrev o1:PE:=.o 1
abbrev o2:PE:=.o 2
abbrev o3:PE:=.o 3
abbrev o4:PE:=.o 4
abbrev o5:PE:=.o 5
abbrev o6:PE:=.o 6
abbrev o7:PE:=.o 7
abbrev o8:PE:=.o 8
abbrev o9:PE:=.o 9
abbrev bI:PE:=.o 10
abbrev kH:PE:=.o 11
abbrev PM:PE:=.o 12
abbrev kI:PE:=.o 13
abbrev wC:PE:=.o 18
abbrev Ao:PE:=.o 45
end Cx
namespace Rm
open Go Cx
abbrev str (b:ByteArray):D:=.v (.string b)
def strs (l:List ByteArray):D:=.list (l.map str)
@[simp] theorem asM (l:List ByteArray):(strs l).l=l.map str:=_root_.id rfl
theorem str_inv {d:D}(h:DTy .str d):∃b,d=str b:=by
 cases h with
 |str b=>exact⟨b,rfl⟩
 |other t d h=>exact h.elim
theorem asL {d:D}(h:DTy (.slice .str) d):∃l:List ByteArray,d=strs l∧l.length≤maxLen:=by
 obtain⟨xs,rfl,hm,hx⟩:=h.slice_inv;obtain⟨l,rfl,hl⟩:=jI (enc:=str) (P:=fun _=>True) fun x hh=>(str_inv (hx x hh)).imp fun b hb=>⟨hb,trivial⟩
 exact⟨l,rfl,by simpa using hm⟩
@[simp] theorem ayo (t:Tm):(cR t).cells=[.int t.op,.int t.n,.list (t.args.map cR)]:=by rw[Cj];rfl
@[simp] theorem ayp (t:Tm):D.agg [.int t.op,.int t.n,.list (t.args.map cR)]=cR t:=(Cj t).symm
@[simp] theorem ayl (t:Tm):(cR t).c 0=.int t.op:=by rw[Cj];rfl
@[simp] theorem aym (t:Tm):(cR t).c 1=.int t.n:=by rw[Cj];rfl
@[simp] theorem ayn (t:Tm):(cR t).c 2=.list (t.args.map cR):=by rw[Cj];rfl
structure City where
 name:ByteArray
 order:Int
 currency:Int
 rest:List Int
 feasts:List Int
 shut:List Int
 deriving Inhabited
def fm (x:City):D:=.agg [str x.name,.int x.order,.int x.currency,ints x.rest,ints x.feasts,ints x.shut]
@[simp] theorem axd (x:City):(fm x).cells=[str x.name,.int x.order,.int x.currency,ints x.rest,ints x.feasts,ints x.shut]:=_root_.id rfl
@[simp] theorem aB0 (x:City):D.agg [str x.name,.int x.order,.int x.currency,ints x.rest,ints x.feasts,ints x.shut]=fm x:=_root_.id rfl
@[simp] theorem ay7 (x:City):gX 6 (fm x)=fm x:=_root_.id rfl
@[simp] theorem aw7 (x:City):(fm x).c 0=str x.name:=_root_.id rfl
@[simp] theorem aw8 (x:City):(fm x).c 1=.int x.order:=_root_.id rfl
@[simp] theorem aw9 (x:City):(fm x).c 2=.int x.currency:=_root_.id rfl
@[simp] theorem axa (x:City):(fm x).c 3=ints x.rest:=_root_.id rfl
@[simp] theorem axb (x:City):(fm x).c 4=ints x.feasts:=_root_.id rfl
@[simp] theorem axc (x:City):(fm x).c 5=ints x.shut:=_root_.id rfl
def mY (l:List City):D:=.list (l.map fm)
@[simp] theorem azA (l:List City):(mY l).l=l.map fm:=_root_.id rfl
abbrev V4:Ty:=.agg [.str,.int .i64,.int .i64,.slice (.int .i64),.slice (.int .i64),.slice (.int .i64)]
def City.OK (x:City):Prop:=bk x.order∧bk x.currency∧(x.rest.length≤maxLen∧∀y,y∈x.rest→bk y)∧(x.feasts.length≤maxLen∧∀y,y∈x.feasts→bk y)∧(x.shut.length≤maxLen∧∀y,y∈x.shut→bk y)
theorem ahp {d:D}(h:DTy V4 d):∃x:City,d=fm x∧x.OK:=by
 obtain⟨ds,rfl,hs⟩:=h.agg_inv;obtain⟨d0,ds,rfl,h0,hs⟩:=hs.cons_inv;obtain⟨d1,ds,rfl,h1,hs⟩:=hs.cons_inv;obtain⟨d2,ds,rfl,h2,hs⟩:=hs.cons_inv;obtain⟨d3,ds,rfl,h3,hs⟩:=hs.cons_inv;obtain⟨d4,ds,rfl,h4,hs⟩:=hs.cons_inv;obtain⟨d5,ds,rfl,h5,hs⟩:=hs.cons_inv;obtain rfl:=hs.nil_inv;obtain⟨n0,rfl⟩:=str_inv h0;obtain⟨n1,rfl,b1⟩:=h1.i64_inv;obtain⟨n2,rfl,b2⟩:=h2.i64_inv;obtain⟨n3,rfl,b3,c3⟩:=h3.ints_inv;obtain⟨n4,rfl,b4,c4⟩:=h4.ints_inv;obtain⟨n5,rfl,b5,c5⟩:=h5.ints_inv;exact⟨⟨n0,n1,n2,n3,n4,n5⟩,rfl,⟨b1,b2,⟨b3,c3⟩,⟨b4,c4⟩,⟨b5,c5⟩⟩⟩
theorem ahr {d:D}(h:DTy (.slice V4) d):∃l:List City,d=mY l∧l.length≤maxLen∧∀y,y∈l→City.OK y:=by
 obtain⟨xs,rfl,hm,hx⟩:=h.slice_inv;obtain⟨l,rfl,hl⟩:=jI (enc:=fm) (P:=City.OK) fun x hh=>ahp (hx x hh);exact⟨l,rfl,by simpa using hm,hl⟩
structure Firm where
 name:ByteArray
 city:Int
 group:Int
 deriving Inhabited
def q6 (x:Firm):D:=.agg [str x.name,.int x.city,.int x.group]
@[simp] theorem axG (x:Firm):(q6 x).cells=[str x.name,.int x.city,.int x.group]:=_root_.id rfl
@[simp] theorem aB4 (x:Firm):D.agg [str x.name,.int x.city,.int x.group]=q6 x:=_root_.id rfl
@[simp] theorem axD (x:Firm):(q6 x).c 0=str x.name:=_root_.id rfl
@[simp] theorem axE (x:Firm):(q6 x).c 1=.int x.city:=_root_.id rfl
@[simp] theorem axF (x:Firm):(q6 x).c 2=.int x.group:=_root_.id rfl
def firms (l:List Firm):D:=.list (l.map q6)
@[simp] theorem aAP (l:List Firm):(firms l).l=l.map q6:=_root_.id rfl
abbrev V6:Ty:=.agg [.str,.int .i64,.int .i64]
def Firm.OK (x:Firm):Prop:=bk x.city∧bk x.group
theorem aiY {d:D}(h:DTy V6 d):∃x:Firm,d=q6 x∧x.OK:=by
 obtain⟨ds,rfl,hs⟩:=h.agg_inv;obtain⟨d0,ds,rfl,h0,hs⟩:=hs.cons_inv;obtain⟨d1,ds,rfl,h1,hs⟩:=hs.cons_inv;obtain⟨d2,ds,rfl,h2,hs⟩:=hs.cons_inv;obtain rfl:=hs.nil_inv;obtain⟨n0,rfl⟩:=str_inv h0;obtain⟨n1,rfl,b1⟩:=h1.i64_inv;obtain⟨n2,rfl,b2⟩:=h2.i64_inv;exact⟨⟨n0,n1,n2⟩,rfl,⟨b1,b2⟩⟩
theorem aiZ {d:D}(h:DTy (.slice V6) d):∃l:List Firm,d=firms l∧l.length≤maxLen∧∀y,y∈l→Firm.OK y:=by
 obtain⟨xs,rfl,hm,hx⟩:=h.slice_inv;obtain⟨l,rfl,hl⟩:=jI (enc:=q6) (P:=Firm.OK) fun x hh=>aiY (hx x hh);exact⟨l,rfl,by simpa using hm,hl⟩
structure Group where
 grade:Int
 deriving DecidableEq,Inhabited
def vl (x:Group):D:=.agg [.int x.grade]
@[simp] theorem axI (x:Group):(vl x).cells=[.int x.grade]:=_root_.id rfl
@[simp] theorem aB5 (x:Group):D.agg [.int x.grade]=vl x:=_root_.id rfl
@[simp] theorem axH (x:Group):(vl x).c 0=.int x.grade:=_root_.id rfl
def groups (l:List Group):D:=.list (l.map vl)
@[simp] theorem aAX (l:List Group):(groups l).l=l.map vl:=_root_.id rfl
abbrev V7:Ty:=.agg [.int .i64]
def Group.OK (x:Group):Prop:=bk x.grade
theorem akm {d:D}(h:DTy V7 d):∃x:Group,d=vl x∧x.OK:=by
 obtain⟨ds,rfl,hs⟩:=h.agg_inv;obtain⟨d0,ds,rfl,h0,hs⟩:=hs.cons_inv;obtain rfl:=hs.nil_inv;obtain⟨n0,rfl,b0⟩:=h0.i64_inv;exact⟨⟨n0⟩,rfl,b0⟩
theorem akn {d:D}(h:DTy (.slice V7) d):∃l:List Group,d=groups l∧l.length≤maxLen∧∀y,y∈l→Group.OK y:=by
 obtain⟨xs,rfl,hm,hx⟩:=h.slice_inv;obtain⟨l,rfl,hl⟩:=jI (enc:=vl) (P:=Group.OK) fun x hh=>akm (hx x hh);exact⟨l,rfl,by simpa using hm,hl⟩
structure Usance where
 fr:Int
 to:Int
 days:Int
 deriving DecidableEq,Inhabited
def q9 (x:Usance):D:=.agg [.int x.fr,.int x.to,.int x.days]
@[simp] theorem ayy (x:Usance):(q9 x).cells=[.int x.fr,.int x.to,.int x.days]:=_root_.id rfl
@[simp] theorem aCf (x:Usance):D.agg [.int x.fr,.int x.to,.int x.days]=q9 x:=_root_.id rfl
@[simp] theorem ayv (x:Usance):(q9 x).c 0=.int x.fr:=_root_.id rfl
@[simp] theorem ayw (x:Usance):(q9 x).c 1=.int x.to:=_root_.id rfl
@[simp] theorem ayx (x:Usance):(q9 x).c 2=.int x.days:=_root_.id rfl
def usances (l:List Usance):D:=.list (l.map q9)
@[simp] theorem aDh (l:List Usance):(usances l).l=l.map q9:=_root_.id rfl
abbrev Wd:Ty:=.agg [.int .i64,.int .i64,.int .i64]
def Usance.OK (x:Usance):Prop:=bk x.fr∧bk x.to∧bk x.days
theorem awi {d:D}(h:DTy Wd d):∃x:Usance,d=q9 x∧x.OK:=by
 obtain⟨ds,rfl,hs⟩:=h.agg_inv;obtain⟨d0,ds,rfl,h0,hs⟩:=hs.cons_inv;obtain⟨d1,ds,rfl,h1,hs⟩:=hs.cons_inv;obtain⟨d2,ds,rfl,h2,hs⟩:=hs.cons_inv;obtain rfl:=hs.nil_inv;obtain⟨n0,rfl,b0⟩:=h0.i64_inv;obtain⟨n1,rfl,b1⟩:=h1.i64_inv;obtain⟨n2,rfl,b2⟩:=h2.i64_inv;exact⟨⟨n0,n1,n2⟩,rfl,⟨b0,b1,b2⟩⟩
theorem awj {d:D}(h:DTy (.slice Wd) d):∃l:List Usance,d=usances l∧l.length≤maxLen∧∀y,y∈l→Usance.OK y:=by
 obtain⟨xs,rfl,hm,hx⟩:=h.slice_inv;obtain⟨l,rfl,hl⟩:=jI (enc:=q9) (P:=Usance.OK) fun x hh=>awi (hx x hh);exact⟨l,rfl,by simpa using hm,hl⟩
structure Rate where
 fr:Int
 to:Int
 num:Int
 den:Int
 since:Int
 deriving DecidableEq,Inhabited
def oh (x:Rate):D:=.agg [.int x.fr,.int x.to,.int x.num,.int x.den,.int x.since]
@[simp] theorem axX (x:Rate):(oh x).cells=[.int x.fr,.int x.to,.int x.num,.int x.den,.int x.since]:=_root_.id rfl
@[simp] theorem aB8 (x:Rate):D.agg [.int x.fr,.int x.to,.int x.num,.int x.den,.int x.since]=oh x:=_root_.id rfl
@[simp] theorem axS (x:Rate):(oh x).c 0=.int x.fr:=_root_.id rfl
@[simp] theorem axT (x:Rate):(oh x).c 1=.int x.to:=_root_.id rfl
@[simp] theorem axU (x:Rate):(oh x).c 2=.int x.num:=_root_.id rfl
@[simp] theorem axV (x:Rate):(oh x).c 3=.int x.den:=_root_.id rfl
@[simp] theorem axW (x:Rate):(oh x).c 4=.int x.since:=_root_.id rfl
def rates (l:List Rate):D:=.list (l.map oh)
@[simp] theorem aCB (l:List Rate):(rates l).l=l.map oh:=_root_.id rfl
abbrev Wa:Ty:=.agg [.int .i64,.int .i64,.int .i64,.int .i64,.int .i64]
def Rate.OK (x:Rate):Prop:=bk x.fr∧bk x.to∧bk x.num∧bk x.den∧bk x.since
theorem arC {d:D}(h:DTy Wa d):∃x:Rate,d=oh x∧x.OK:=by
 obtain⟨ds,rfl,hs⟩:=h.agg_inv;obtain⟨d0,ds,rfl,h0,hs⟩:=hs.cons_inv;obtain⟨d1,ds,rfl,h1,hs⟩:=hs.cons_inv;obtain⟨d2,ds,rfl,h2,hs⟩:=hs.cons_inv;obtain⟨d3,ds,rfl,h3,hs⟩:=hs.cons_inv;obtain⟨d4,ds,rfl,h4,hs⟩:=hs.cons_inv;obtain rfl:=hs.nil_inv;obtain⟨n0,rfl,b0⟩:=h0.i64_inv;obtain⟨n1,rfl,b1⟩:=h1.i64_inv;obtain⟨n2,rfl,b2⟩:=h2.i64_inv;obtain⟨n3,rfl,b3⟩:=h3.i64_inv;obtain⟨n4,rfl,b4⟩:=h4.i64_inv;exact⟨⟨n0,n1,n2,n3,n4⟩,rfl,⟨b0,b1,b2,b3,b4⟩⟩
theorem arD {d:D}(h:DTy (.slice Wa) d):∃l:List Rate,d=rates l∧l.length≤maxLen∧∀y,y∈l→Rate.OK y:=by
 obtain⟨xs,rfl,hm,hx⟩:=h.slice_inv;obtain⟨l,rfl,hl⟩:=jI (enc:=oh) (P:=Rate.OK) fun x hh=>arC (hx x hh);exact⟨l,rfl,by simpa using hm,hl⟩
structure Halt where
 order:Int
 fr:Int
 to:Int
 deriving DecidableEq,Inhabited
def q7 (x:Halt):D:=.agg [.int x.order,.int x.fr,.int x.to]
@[simp] theorem axM (x:Halt):(q7 x).cells=[.int x.order,.int x.fr,.int x.to]:=_root_.id rfl
@[simp] theorem aB6 (x:Halt):D.agg [.int x.order,.int x.fr,.int x.to]=q7 x:=_root_.id rfl
@[simp] theorem axJ (x:Halt):(q7 x).c 0=.int x.order:=_root_.id rfl
@[simp] theorem axK (x:Halt):(q7 x).c 1=.int x.fr:=_root_.id rfl
@[simp] theorem axL (x:Halt):(q7 x).c 2=.int x.to:=_root_.id rfl
def halts (l:List Halt):D:=.list (l.map q7)
@[simp] theorem aA9 (l:List Halt):(halts l).l=l.map q7:=_root_.id rfl
abbrev V8:Ty:=.agg [.int .i64,.int .i64,.int .i64]
def Halt.OK (x:Halt):Prop:=bk x.order∧bk x.fr∧bk x.to
theorem akJ {d:D}(h:DTy V8 d):∃x:Halt,d=q7 x∧x.OK:=by
 obtain⟨ds,rfl,hs⟩:=h.agg_inv;obtain⟨d0,ds,rfl,h0,hs⟩:=hs.cons_inv;obtain⟨d1,ds,rfl,h1,hs⟩:=hs.cons_inv;obtain⟨d2,ds,rfl,h2,hs⟩:=hs.cons_inv;obtain rfl:=hs.nil_inv;obtain⟨n0,rfl,b0⟩:=h0.i64_inv;obtain⟨n1,rfl,b1⟩:=h1.i64_inv;obtain⟨n2,rfl,b2⟩:=h2.i64_inv;exact⟨⟨n0,n1,n2⟩,rfl,⟨b0,b1,b2⟩⟩
theorem akK {d:D}(h:DTy (.slice V8) d):∃l:List Halt,d=halts l∧l.length≤maxLen∧∀y,y∈l→Halt.OK y:=by
 obtain⟨xs,rfl,hm,hx⟩:=h.slice_inv;obtain⟨l,rfl,hl⟩:=jI (enc:=q7) (P:=Halt.OK) fun x hh=>akJ (hx x hh);exact⟨l,rfl,by simpa using hm,hl⟩
structure Choice where
 ask:Int
 by_:Int
 whole:Bool
 deriving DecidableEq,Inhabited
def qZ (x:Choice):D:=.agg [.int x.ask,.int x.by_,.bool x.whole]
@[simp] theorem aw6 (x:Choice):(qZ x).cells=[.int x.ask,.int x.by_,.bool x.whole]:=_root_.id rfl
@[simp] theorem aBZ (x:Choice):D.agg [.int x.ask,.int x.by_,.bool x.whole]=qZ x:=_root_.id rfl
@[simp] theorem aw4 (x:Choice):(qZ x).c 0=.int x.ask:=_root_.id rfl
@[simp] theorem aw5 (x:Choice):(qZ x).c 1=.int x.by_:=_root_.id rfl
def choices (l:List Choice):D:=.list (l.map qZ)
@[simp] theorem azz (l:List Choice):(choices l).l=l.map qZ:=_root_.id rfl
abbrev V3:Ty:=.agg [.int .i64,.int .i64,.bool]
def Choice.OK (x:Choice):Prop:=bk x.ask∧bk x.by_
theorem ahm {d:D}(h:DTy V3 d):∃x:Choice,d=qZ x∧x.OK:=by
 obtain⟨ds,rfl,hs⟩:=h.agg_inv;obtain⟨d0,ds,rfl,h0,hs⟩:=hs.cons_inv;obtain⟨d1,ds,rfl,h1,hs⟩:=hs.cons_inv;obtain⟨d2,ds,rfl,h2,hs⟩:=hs.cons_inv;obtain rfl:=hs.nil_inv;obtain⟨n0,rfl,b0⟩:=h0.i64_inv;obtain⟨n1,rfl,b1⟩:=h1.i64_inv;obtain⟨n2,rfl⟩:=h2.bool_inv;exact⟨⟨n0,n1,n2⟩,rfl,⟨b0,b1⟩⟩
theorem ahn {d:D}(h:DTy (.slice V3) d):∃l:List Choice,d=choices l∧l.length≤maxLen∧∀y,y∈l→Choice.OK y:=by
 obtain⟨xs,rfl,hm,hx⟩:=h.slice_inv;obtain⟨l,rfl,hl⟩:=jI (enc:=qZ) (P:=Choice.OK) fun x hh=>ahm (hx x hh);exact⟨l,rfl,by simpa using hm,hl⟩
structure Rule where
 ask:Int
 term:Tm
 deriving Inhabited
def q8 (x:Rule):D:=.agg [.int x.ask,.int x.term.op,.int x.term.n,.list (x.term.args.map cR)]
@[simp] theorem ax8 (x:Rule):(q8 x).cells=[.int x.ask,.int x.term.op,.int x.term.n,.list (x.term.args.map cR)]:=_root_.id rfl
@[simp] theorem aCa (x:Rule):D.agg [.int x.ask,.int x.term.op,.int x.term.n,.list (x.term.args.map cR)]=q8 x:=_root_.id rfl
@[simp] theorem ax7 (x:Rule):(q8 x).c 0=.int x.ask:=_root_.id rfl
def rules (l:List Rule):D:=.list (l.map q8)
@[simp] theorem aCG (l:List Rule):(rules l).l=l.map q8:=_root_.id rfl
abbrev Wb:Ty:=.agg [.int .i64,.int .i64,.int .i64,.slice .trm]
def Rule.OK (x:Rule):Prop:=bk x.ask∧Tm.OK x.term
theorem asb {d:D}(h:DTy Wb d):∃x:Rule,d=q8 x∧x.OK:=by
 obtain⟨ds,rfl,hs⟩:=h.agg_inv;obtain⟨d0,ds,rfl,h0,hs⟩:=hs.cons_inv;obtain⟨d1,ds,rfl,h1,hs⟩:=hs.cons_inv;obtain⟨d2,ds,rfl,h2,hs⟩:=hs.cons_inv;obtain⟨d3,ds,rfl,h3,hs⟩:=hs.cons_inv;obtain rfl:=hs.nil_inv;obtain⟨n0,rfl,b0⟩:=h0.i64_inv;obtain⟨n1,rfl,b1⟩:=h1.i64_inv;obtain⟨n2,rfl,b2⟩:=h2.i64_inv;obtain⟨n3,rfl,b3,c3⟩:=h3.trms_inv;exact⟨⟨n0,.mk n1 n2 n3⟩,rfl,⟨b0,.mk _ _ _ b1 b2 b3 c3⟩⟩
theorem asc {d:D}(h:DTy (.slice Wb) d):∃l:List Rule,d=rules l∧l.length≤maxLen∧∀y,y∈l→Rule.OK y:=by
 obtain⟨xs,rfl,hm,hx⟩:=h.slice_inv;obtain⟨l,rfl,hl⟩:=jI (enc:=q8) (P:=Rule.OK) fun x hh=>asb (hx x hh);exact⟨l,rfl,by simpa using hm,hl⟩
structure Order where
 name:ByteArray
 accepts:Bool
 choices:List Choice
 rules:List Rule
 deriving Inhabited
def gq (x:Order):D:=.agg [str x.name,.bool x.accepts,choices x.choices,rules x.rules]
@[simp] theorem axR (x:Order):(gq x).cells=[str x.name,.bool x.accepts,choices x.choices,rules x.rules]:=_root_.id rfl
@[simp] theorem aB7 (x:Order):D.agg [str x.name,.bool x.accepts,choices x.choices,rules x.rules]=gq x:=_root_.id rfl
@[simp] theorem aza (x:Order):gX 4 (gq x)=gq x:=_root_.id rfl
@[simp] theorem axN (x:Order):(gq x).c 0=str x.name:=_root_.id rfl
@[simp] theorem axO (x:Order):(gq x).c 1=.bool x.accepts:=_root_.id rfl
@[simp] theorem axP (x:Order):(gq x).c 2=choices x.choices:=_root_.id rfl
@[simp] theorem axQ (x:Order):(gq x).c 3=rules x.rules:=_root_.id rfl
def orders (l:List Order):D:=.list (l.map gq)
@[simp] theorem aCm (l:List Order):(orders l).l=l.map gq:=_root_.id rfl
abbrev V9:Ty:=.agg [.str,.bool,.slice V3,.slice Wb]
def Order.OK (x:Order):Prop:=(x.choices.length≤maxLen∧∀y,y∈x.choices→Choice.OK y)∧(x.rules.length≤maxLen∧∀y,y∈x.rules→Rule.OK y)
theorem aql {d:D}(h:DTy V9 d):∃x:Order,d=gq x∧x.OK:=by
 obtain⟨ds,rfl,hs⟩:=h.agg_inv;obtain⟨d0,ds,rfl,h0,hs⟩:=hs.cons_inv;obtain⟨d1,ds,rfl,h1,hs⟩:=hs.cons_inv;obtain⟨d2,ds,rfl,h2,hs⟩:=hs.cons_inv;obtain⟨d3,ds,rfl,h3,hs⟩:=hs.cons_inv;obtain rfl:=hs.nil_inv;obtain⟨n0,rfl⟩:=str_inv h0;obtain⟨n1,rfl⟩:=h1.bool_inv;obtain⟨n2,rfl,b2,c2⟩:=ahn h2;obtain⟨n3,rfl,b3,c3⟩:=asc h3;exact⟨⟨n0,n1,n2,n3⟩,rfl,⟨⟨b2,c2⟩,⟨b3,c3⟩⟩⟩
theorem aqm {d:D}(h:DTy (.slice V9) d):∃l:List Order,d=orders l∧l.length≤maxLen∧∀y,y∈l→Order.OK y:=by
 obtain⟨xs,rfl,hm,hx⟩:=h.slice_inv;obtain⟨l,rfl,hl⟩:=jI (enc:=gq) (P:=Order.OK) fun x hh=>aql (hx x hh);exact⟨l,rfl,by simpa using hm,hl⟩
structure Realm where
 currencies:List ByteArray
 cities:List City
 groups:List Group
 firms:List Firm
 orders:List Order
 usances:List Usance
 rates:List Rate
 halts:List Halt
 deriving Inhabited
def aL (x:Realm):D:=.agg [strs x.currencies,mY x.cities,groups x.groups,firms x.firms,orders x.orders,usances x.usances,rates x.rates,halts x.halts]
@[simp] theorem ax6 (x:Realm):(aL x).cells=[strs x.currencies,mY x.cities,groups x.groups,firms x.firms,orders x.orders,usances x.usances,rates x.rates,halts x.halts]:=_root_.id rfl
@[simp] theorem aB9 (x:Realm):D.agg [strs x.currencies,mY x.cities,groups x.groups,firms x.firms,orders x.orders,usances x.usances,rates x.rates,halts x.halts]=aL x:=_root_.id rfl
@[simp] theorem azb (x:Realm):gX 8 (aL x)=aL x:=_root_.id rfl
@[simp] theorem aCq (x:Realm)(a0 a1 a2 a3 a4 a5 a6 a7:D):D.agg (cV [a0,a1,a2,a3,a4,a5,a6,a7] 0 [strs x.currencies,mY x.cities,groups x.groups,firms x.firms,orders x.orders,usances x.usances,rates x.rates,halts x.halts])=aL x:=_root_.id rfl
@[simp] theorem axY (x:Realm):(aL x).c 0=strs x.currencies:=_root_.id rfl
@[simp] theorem axZ (x:Realm):(aL x).c 1=mY x.cities:=_root_.id rfl
@[simp] theorem ax0 (x:Realm):(aL x).c 2=groups x.groups:=_root_.id rfl
@[simp] theorem ax1 (x:Realm):(aL x).c 3=firms x.firms:=_root_.id rfl
@[simp] theorem ax2 (x:Realm):(aL x).c 4=orders x.orders:=_root_.id rfl
@[simp] theorem ax3 (x:Realm):(aL x).c 5=usances x.usances:=_root_.id rfl
@[simp] theorem ax4 (x:Realm):(aL x).c 6=rates x.rates:=_root_.id rfl
@[simp] theorem ax5 (x:Realm):(aL x).c 7=halts x.halts:=_root_.id rfl
abbrev av9:Ty:=.agg [.slice .str,.slice V4,.slice V7,.slice V6,.slice V9,.slice Wd,.slice Wa,.slice V8]
def Realm.OK (x:Realm):Prop:=x.currencies.length≤maxLen∧(x.cities.length≤maxLen∧∀y,y∈x.cities→City.OK y)∧(x.groups.length≤maxLen∧∀y,y∈x.groups→Group.OK y)∧(x.firms.length≤maxLen∧∀y,y∈x.firms→Firm.OK y)∧(x.orders.length≤maxLen∧∀y,y∈x.orders→Order.OK y)∧(x.usances.length≤maxLen∧∀y,y∈x.usances→Usance.OK y)∧(x.rates.length≤maxLen∧∀y,y∈x.rates→Rate.OK y)∧(x.halts.length≤maxLen∧∀y,y∈x.halts→Halt.OK y)
theorem arP {d:D}(h:DTy av9 d):∃x:Realm,d=aL x∧x.OK:=by
 obtain⟨ds,rfl,hs⟩:=h.agg_inv;obtain⟨d0,ds,rfl,h0,hs⟩:=hs.cons_inv;obtain⟨d1,ds,rfl,h1,hs⟩:=hs.cons_inv;obtain⟨d2,ds,rfl,h2,hs⟩:=hs.cons_inv;obtain⟨d3,ds,rfl,h3,hs⟩:=hs.cons_inv;obtain⟨d4,ds,rfl,h4,hs⟩:=hs.cons_inv;obtain⟨d5,ds,rfl,h5,hs⟩:=hs.cons_inv;obtain⟨d6,ds,rfl,h6,hs⟩:=hs.cons_inv;obtain⟨d7,ds,rfl,h7,hs⟩:=hs.cons_inv;obtain rfl:=hs.nil_inv;obtain⟨n0,rfl,b0⟩:=asL h0;obtain⟨n1,rfl,b1,c1⟩:=ahr h1;obtain⟨n2,rfl,b2,c2⟩:=akn h2;obtain⟨n3,rfl,b3,c3⟩:=aiZ h3;obtain⟨n4,rfl,b4,c4⟩:=aqm h4;obtain⟨n5,rfl,b5,c5⟩:=awj h5;obtain⟨n6,rfl,b6,c6⟩:=arD h6;obtain⟨n7,rfl,b7,c7⟩:=akK h7;exact⟨⟨n0,n1,n2,n3,n4,n5,n6,n7⟩,rfl,⟨b0,⟨b1,c1⟩,⟨b2,c2⟩,⟨b3,c3⟩,⟨b4,c4⟩,⟨b5,c5⟩,⟨b6,c6⟩,⟨b7,c7⟩⟩⟩
structure Tenor where
 kind:Int
 n:Int
 unit:Int
 deriving DecidableEq,Inhabited
def jA (x:Tenor):D:=.agg [.int x.kind,.int x.n,.int x.unit]
@[simp] theorem ayt (x:Tenor):(jA x).cells=[.int x.kind,.int x.n,.int x.unit]:=_root_.id rfl
@[simp] theorem aCe (x:Tenor):D.agg [.int x.kind,.int x.n,.int x.unit]=jA x:=_root_.id rfl
@[simp] theorem ayq (x:Tenor):(jA x).c 0=.int x.kind:=_root_.id rfl
@[simp] theorem ayr (x:Tenor):(jA x).c 1=.int x.n:=_root_.id rfl
@[simp] theorem ays (x:Tenor):(jA x).c 2=.int x.unit:=_root_.id rfl
def Tenor.OK (x:Tenor):Prop:=bk x.kind∧bk x.n∧bk x.unit
structure Bill where
 drawer:Int
 drawee:Int
 payee:Int
 sum:Int
 currency:Int
 tenor:Tenor
 day:Int
 city:Int
 pay:Int
 need:Int
 rate:Int
 flags:Int
 parts:Int
 deriving DecidableEq,Inhabited
def dr (x:Bill):D:=.agg [.int x.drawer,.int x.drawee,.int x.payee,.int x.sum,.int x.currency,.int x.tenor.kind,.int x.tenor.n,.int x.tenor.unit,.int x.day,.int x.city,.int x.pay,.int x.need,.int x.rate,.int x.flags,.int x.parts]
@[simp] theorem awR (x:Bill):(dr x).cells=[.int x.drawer,.int x.drawee,.int x.payee,.int x.sum,.int x.currency,.int x.tenor.kind,.int x.tenor.n,.int x.tenor.unit,.int x.day,.int x.city,.int x.pay,.int x.need,.int x.rate,.int x.flags,.int x.parts]:=_root_.id rfl
@[simp] theorem aBW (x:Bill):D.agg [.int x.drawer,.int x.drawee,.int x.payee,.int x.sum,.int x.currency,.int x.tenor.kind,.int x.tenor.n,.int x.tenor.unit,.int x.day,.int x.city,.int x.pay,.int x.need,.int x.rate,.int x.flags,.int x.parts]=dr x:=_root_.id rfl
@[simp] theorem ay6 (x:Bill):gX 15 (dr x)=dr x:=_root_.id rfl
@[simp] theorem aCn (x:Bill)(a0 a1 a2 a3 a4 a5 a6 a7 a8 a9 gV iY gW iZ ja:D):D.agg (cV [a0,a1,a2,a3,a4,a5,a6,a7,a8,a9,gV,iY,gW,iZ,ja] 0 [.int x.drawer,.int x.drawee,.int x.payee,.int x.sum,.int x.currency,.int x.tenor.kind,.int x.tenor.n,.int x.tenor.unit,.int x.day,.int x.city,.int x.pay,.int x.need,.int x.rate,.int x.flags,.int x.parts])=dr x:=_root_.id rfl
@[simp] theorem awK (x:Bill):(dr x).c 2=.int x.payee:=_root_.id rfl
@[simp] theorem awL (x:Bill):(dr x).c 3=.int x.sum:=_root_.id rfl
@[simp] theorem awM (x:Bill):(dr x).c 5=.int x.tenor.kind:=_root_.id rfl
@[simp] theorem awN (x:Bill):(dr x).c 6=.int x.tenor.n:=_root_.id rfl
@[simp] theorem awO (x:Bill):(dr x).c 7=.int x.tenor.unit:=_root_.id rfl
@[simp] theorem awP (x:Bill):(dr x).c 8=.int x.day:=_root_.id rfl
@[simp] theorem awQ (x:Bill):(dr x).c 9=.int x.city:=_root_.id rfl
@[simp] theorem awG (x:Bill):(dr x).c 10=.int x.pay:=_root_.id rfl
@[simp] theorem awH (x:Bill):(dr x).c 12=.int x.rate:=_root_.id rfl
@[simp] theorem awI (x:Bill):(dr x).c 13=.int x.flags:=_root_.id rfl
@[simp] theorem awJ (x:Bill):(dr x).c 14=.int x.parts:=_root_.id rfl
def Bill.OK (x:Bill):Prop:=bk x.drawer∧bk x.drawee∧bk x.payee∧bk x.sum∧bk x.currency∧Tenor.OK x.tenor∧bk x.day∧bk x.city∧bk x.pay∧bk x.need∧bk x.rate∧bk x.flags∧bk x.parts
structure Sign where
 kind:Int
 part:Int
 who:Int
 for_:Int
 to:Int
 sum:Int
 day:Int
 city:Int
 flags:Int
 deriving DecidableEq,Inhabited
def lj (x:Sign):D:=.agg [.int x.kind,.int x.part,.int x.who,.int x.for_,.int x.to,.int x.sum,.int x.day,.int x.city,.int x.flags]
@[simp] theorem ayk (x:Sign):(lj x).cells=[.int x.kind,.int x.part,.int x.who,.int x.for_,.int x.to,.int x.sum,.int x.day,.int x.city,.int x.flags]:=_root_.id rfl
@[simp] theorem aCd (x:Sign):D.agg [.int x.kind,.int x.part,.int x.who,.int x.for_,.int x.to,.int x.sum,.int x.day,.int x.city,.int x.flags]=lj x:=_root_.id rfl
@[simp] theorem azd (x:Sign):gX 9 (lj x)=lj x:=_root_.id rfl
@[simp] theorem aye (x:Sign):(lj x).c 0=.int x.kind:=_root_.id rfl
@[simp] theorem ayf (x:Sign):(lj x).c 2=.int x.who:=_root_.id rfl
@[simp] theorem ayg (x:Sign):(lj x).c 5=.int x.sum:=_root_.id rfl
@[simp] theorem ayh (x:Sign):(lj x).c 6=.int x.day:=_root_.id rfl
@[simp] theorem ayi (x:Sign):(lj x).c 7=.int x.city:=_root_.id rfl
@[simp] theorem ayj (x:Sign):(lj x).c 8=.int x.flags:=_root_.id rfl
def signs (l:List Sign):D:=.list (l.map lj)
@[simp] theorem aCR (l:List Sign):(signs l).l=l.map lj:=_root_.id rfl
@[simp] theorem aCQ (l:List Sign):(signs l).cells=[signs l]:=_root_.id rfl
abbrev Wc:Ty:=.agg [.int .i64,.int .i64,.int .i64,.int .i64,.int .i64,.int .i64,.int .i64,.int .i64,.int .i64]
def Sign.OK (x:Sign):Prop:=bk x.kind∧bk x.part∧bk x.who∧bk x.for_∧bk x.to∧bk x.sum∧bk x.day∧bk x.city∧bk x.flags
theorem asA {d:D}(h:DTy Wc d):∃x:Sign,d=lj x∧x.OK:=by
 obtain⟨ds,rfl,hs⟩:=h.agg_inv;obtain⟨d0,ds,rfl,h0,hs⟩:=hs.cons_inv;obtain⟨d1,ds,rfl,h1,hs⟩:=hs.cons_inv;obtain⟨d2,ds,rfl,h2,hs⟩:=hs.cons_inv;obtain⟨d3,ds,rfl,h3,hs⟩:=hs.cons_inv;obtain⟨d4,ds,rfl,h4,hs⟩:=hs.cons_inv;obtain⟨d5,ds,rfl,h5,hs⟩:=hs.cons_inv;obtain⟨d6,ds,rfl,h6,hs⟩:=hs.cons_inv;obtain⟨d7,ds,rfl,h7,hs⟩:=hs.cons_inv;obtain⟨d8,ds,rfl,h8,hs⟩:=hs.cons_inv;obtain rfl:=hs.nil_inv;obtain⟨n0,rfl,b0⟩:=h0.i64_inv;obtain⟨n1,rfl,b1⟩:=h1.i64_inv;obtain⟨n2,rfl,b2⟩:=h2.i64_inv;obtain⟨n3,rfl,b3⟩:=h3.i64_inv;obtain⟨n4,rfl,b4⟩:=h4.i64_inv;obtain⟨n5,rfl,b5⟩:=h5.i64_inv;obtain⟨n6,rfl,b6⟩:=h6.i64_inv;obtain⟨n7,rfl,b7⟩:=h7.i64_inv;obtain⟨n8,rfl,b8⟩:=h8.i64_inv;exact⟨⟨n0,n1,n2,n3,n4,n5,n6,n7,n8⟩,rfl,⟨b0,b1,b2,b3,b4,b5,b6,b7,b8⟩⟩
theorem asB {d:D}(h:DTy (.slice Wc) d):∃l:List Sign,d=signs l∧l.length≤maxLen∧∀y,y∈l→Sign.OK y:=by
 obtain⟨xs,rfl,hm,hx⟩:=h.slice_inv;obtain⟨l,rfl,hl⟩:=jI (enc:=lj) (P:=Sign.OK) fun x hh=>asA (hx x hh);exact⟨l,rfl,by simpa using hm,hl⟩
structure Alter where
 at_:Int
 sum:Int
 deriving DecidableEq,Inhabited
def og (x:Alter):D:=.agg [.int x.at_,.int x.sum]
@[simp] theorem awF (x:Alter):(og x).cells=[.int x.at_,.int x.sum]:=_root_.id rfl
@[simp] theorem aBV (x:Alter):D.agg [.int x.at_,.int x.sum]=og x:=_root_.id rfl
@[simp] theorem awD (x:Alter):(og x).c 0=.int x.at_:=_root_.id rfl
@[simp] theorem awE (x:Alter):(og x).c 1=.int x.sum:=_root_.id rfl
def alters (l:List Alter):D:=.list (l.map og)
@[simp] theorem azh (l:List Alter):(alters l).l=l.map og:=_root_.id rfl
@[simp] theorem azg (l:List Alter):(alters l).cells=[alters l]:=_root_.id rfl
abbrev V2:Ty:=.agg [.int .i64,.int .i64]
def Alter.OK (x:Alter):Prop:=bk x.at_∧bk x.sum
theorem agz {d:D}(h:DTy V2 d):∃x:Alter,d=og x∧x.OK:=by
 obtain⟨ds,rfl,hs⟩:=h.agg_inv;obtain⟨d0,ds,rfl,h0,hs⟩:=hs.cons_inv;obtain⟨d1,ds,rfl,h1,hs⟩:=hs.cons_inv;obtain rfl:=hs.nil_inv;obtain⟨n0,rfl,b0⟩:=h0.i64_inv;obtain⟨n1,rfl,b1⟩:=h1.i64_inv;exact⟨⟨n0,n1⟩,rfl,⟨b0,b1⟩⟩
theorem agA {d:D}(h:DTy (.slice V2) d):∃l:List Alter,d=alters l∧l.length≤maxLen∧∀y,y∈l→Alter.OK y:=by
 obtain⟨xs,rfl,hm,hx⟩:=h.slice_inv;obtain⟨l,rfl,hl⟩:=jI (enc:=og) (P:=Alter.OK) fun x hh=>agz (hx x hh);exact⟨l,rfl,by simpa using hm,hl⟩
structure Act where
 kind:Int
 who:Int
 to:Int
 part:Int
 at_:Int
 sum:Int
 day:Int
 city:Int
 form:Int
 deriving DecidableEq,Inhabited
def oe (x:Act):D:=.agg [.int x.kind,.int x.who,.int x.to,.int x.part,.int x.at_,.int x.sum,.int x.day,.int x.city,.int x.form]
@[simp] theorem awC (x:Act):(oe x).cells=[.int x.kind,.int x.who,.int x.to,.int x.part,.int x.at_,.int x.sum,.int x.day,.int x.city,.int x.form]:=_root_.id rfl
@[simp] theorem aBU (x:Act):D.agg [.int x.kind,.int x.who,.int x.to,.int x.part,.int x.at_,.int x.sum,.int x.day,.int x.city,.int x.form]=oe x:=_root_.id rfl
@[simp] theorem ay5 (x:Act):gX 9 (oe x)=oe x:=_root_.id rfl
@[simp] theorem awz (x:Act):(oe x).c 0=.int x.kind:=_root_.id rfl
@[simp] theorem awA (x:Act):(oe x).c 4=.int x.at_:=_root_.id rfl
@[simp] theorem awB (x:Act):(oe x).c 6=.int x.day:=_root_.id rfl
def acts (l:List Act):D:=.list (l.map oe)
@[simp] theorem ayY (l:List Act):(acts l).l=l.map oe:=_root_.id rfl
@[simp] theorem ayX (l:List Act):(acts l).cells=[acts l]:=_root_.id rfl
abbrev V1:Ty:=.agg [.int .i64,.int .i64,.int .i64,.int .i64,.int .i64,.int .i64,.int .i64,.int .i64,.int .i64]
def Act.OK (x:Act):Prop:=bk x.kind∧bk x.who∧bk x.to∧bk x.part∧bk x.at_∧bk x.sum∧bk x.day∧bk x.city∧bk x.form
theorem agw {d:D}(h:DTy V1 d):∃x:Act,d=oe x∧x.OK:=by
 obtain⟨ds,rfl,hs⟩:=h.agg_inv;obtain⟨d0,ds,rfl,h0,hs⟩:=hs.cons_inv;obtain⟨d1,ds,rfl,h1,hs⟩:=hs.cons_inv;obtain⟨d2,ds,rfl,h2,hs⟩:=hs.cons_inv;obtain⟨d3,ds,rfl,h3,hs⟩:=hs.cons_inv;obtain⟨d4,ds,rfl,h4,hs⟩:=hs.cons_inv;obtain⟨d5,ds,rfl,h5,hs⟩:=hs.cons_inv;obtain⟨d6,ds,rfl,h6,hs⟩:=hs.cons_inv;obtain⟨d7,ds,rfl,h7,hs⟩:=hs.cons_inv;obtain⟨d8,ds,rfl,h8,hs⟩:=hs.cons_inv;obtain rfl:=hs.nil_inv;obtain⟨n0,rfl,b0⟩:=h0.i64_inv;obtain⟨n1,rfl,b1⟩:=h1.i64_inv;obtain⟨n2,rfl,b2⟩:=h2.i64_inv;obtain⟨n3,rfl,b3⟩:=h3.i64_inv;obtain⟨n4,rfl,b4⟩:=h4.i64_inv;obtain⟨n5,rfl,b5⟩:=h5.i64_inv;obtain⟨n6,rfl,b6⟩:=h6.i64_inv;obtain⟨n7,rfl,b7⟩:=h7.i64_inv;obtain⟨n8,rfl,b8⟩:=h8.i64_inv;exact⟨⟨n0,n1,n2,n3,n4,n5,n6,n7,n8⟩,rfl,⟨b0,b1,b2,b3,b4,b5,b6,b7,b8⟩⟩
theorem agx {d:D}(h:DTy (.slice V1) d):∃l:List Act,d=acts l∧l.length≤maxLen∧∀y,y∈l→Act.OK y:=by
 obtain⟨xs,rfl,hm,hx⟩:=h.slice_inv;obtain⟨l,rfl,hl⟩:=jI (enc:=oe) (P:=Act.OK) fun x hh=>agw (hx x hh);exact⟨l,rfl,by simpa using hm,hl⟩
structure Fact where
 kind:Int
 at_:Int
 n:Int
 deriving DecidableEq,Inhabited
def q5 (x:Fact):D:=.agg [.int x.kind,.int x.at_,.int x.n]
@[simp] theorem axp (x:Fact):(q5 x).cells=[.int x.kind,.int x.at_,.int x.n]:=_root_.id rfl
@[simp] theorem aB2 (x:Fact):D.agg [.int x.kind,.int x.at_,.int x.n]=q5 x:=_root_.id rfl
@[simp] theorem axm (x:Fact):(q5 x).c 0=.int x.kind:=_root_.id rfl
@[simp] theorem axn (x:Fact):(q5 x).c 1=.int x.at_:=_root_.id rfl
@[simp] theorem axo (x:Fact):(q5 x).c 2=.int x.n:=_root_.id rfl
def facts (l:List Fact):D:=.list (l.map q5)
@[simp] theorem aAN (l:List Fact):(facts l).l=l.map q5:=_root_.id rfl
@[simp] theorem aAM (l:List Fact):(facts l).cells=[facts l]:=_root_.id rfl
abbrev V5:Ty:=.agg [.int .i64,.int .i64,.int .i64]
def Fact.OK (x:Fact):Prop:=bk x.kind∧bk x.at_∧bk x.n
theorem aiR {d:D}(h:DTy V5 d):∃x:Fact,d=q5 x∧x.OK:=by
 obtain⟨ds,rfl,hs⟩:=h.agg_inv;obtain⟨d0,ds,rfl,h0,hs⟩:=hs.cons_inv;obtain⟨d1,ds,rfl,h1,hs⟩:=hs.cons_inv;obtain⟨d2,ds,rfl,h2,hs⟩:=hs.cons_inv;obtain rfl:=hs.nil_inv;obtain⟨n0,rfl,b0⟩:=h0.i64_inv;obtain⟨n1,rfl,b1⟩:=h1.i64_inv;obtain⟨n2,rfl,b2⟩:=h2.i64_inv;exact⟨⟨n0,n1,n2⟩,rfl,⟨b0,b1,b2⟩⟩
theorem aiS {d:D}(h:DTy (.slice V5) d):∃l:List Fact,d=facts l∧l.length≤maxLen∧∀y,y∈l→Fact.OK y:=by
 obtain⟨xs,rfl,hm,hx⟩:=h.slice_inv;obtain⟨l,rfl,hl⟩:=jI (enc:=q5) (P:=Fact.OK) fun x hh=>aiR (hx x hh);exact⟨l,rfl,by simpa using hm,hl⟩
structure File where
 bill:Bill
 signs:List Sign
 alters:List Alter
 acts:List Act
 facts:List Fact
 deriving Inhabited
def cd (x:File):D:=.agg [.int x.bill.drawer,.int x.bill.drawee,.int x.bill.payee,.int x.bill.sum,.int x.bill.currency,.int x.bill.tenor.kind,.int x.bill.tenor.n,.int x.bill.tenor.unit,.int x.bill.day,.int x.bill.city,.int x.bill.pay,.int x.bill.need,.int x.bill.rate,.int x.bill.flags,.int x.bill.parts,signs x.signs,alters x.alters,acts x.acts,facts x.facts]
@[simp] theorem axC (x:File):(cd x).cells=[.int x.bill.drawer,.int x.bill.drawee,.int x.bill.payee,.int x.bill.sum,.int x.bill.currency,.int x.bill.tenor.kind,.int x.bill.tenor.n,.int x.bill.tenor.unit,.int x.bill.day,.int x.bill.city,.int x.bill.pay,.int x.bill.need,.int x.bill.rate,.int x.bill.flags,.int x.bill.parts,signs x.signs,alters x.alters,acts x.acts,facts x.facts]:=_root_.id rfl
@[simp] theorem aB3 (x:File):D.agg [.int x.bill.drawer,.int x.bill.drawee,.int x.bill.payee,.int x.bill.sum,.int x.bill.currency,.int x.bill.tenor.kind,.int x.bill.tenor.n,.int x.bill.tenor.unit,.int x.bill.day,.int x.bill.city,.int x.bill.pay,.int x.bill.need,.int x.bill.rate,.int x.bill.flags,.int x.bill.parts,signs x.signs,alters x.alters,acts x.acts,facts x.facts]=cd x:=_root_.id rfl
@[simp] theorem ay9 (x:File):gX 19 (cd x)=cd x:=_root_.id rfl
@[simp] theorem aCo (x:File)(a0 a1 a2 a3 a4 a5 a6 a7 a8 a9 gV iY gW iZ ja jU jV jW km:D):D.agg (cV [a0,a1,a2,a3,a4,a5,a6,a7,a8,a9,gV,iY,gW,iZ,ja,jU,jV,jW,km] 0 [.int x.bill.drawer,.int x.bill.drawee,.int x.bill.payee,.int x.bill.sum,.int x.bill.currency,.int x.bill.tenor.kind,.int x.bill.tenor.n,.int x.bill.tenor.unit,.int x.bill.day,.int x.bill.city,.int x.bill.pay,.int x.bill.need,.int x.bill.rate,.int x.bill.flags,.int x.bill.parts,signs x.signs,alters x.alters,acts x.acts,facts x.facts])=cd x:=_root_.id rfl
@[simp] theorem axy (x:File):(cd x).c 2=.int x.bill.payee:=_root_.id rfl
@[simp] theorem axz (x:File):(cd x).c 3=.int x.bill.sum:=_root_.id rfl
@[simp] theorem axA (x:File):(cd x).c 5=.int x.bill.tenor.kind:=_root_.id rfl
@[simp] theorem axB (x:File):(cd x).c 9=.int x.bill.city:=_root_.id rfl
@[simp] theorem axq (x:File):(cd x).c 10=.int x.bill.pay:=_root_.id rfl
@[simp] theorem axr (x:File):(cd x).c 12=.int x.bill.rate:=_root_.id rfl
@[simp] theorem axs (x:File):(cd x).c 13=.int x.bill.flags:=_root_.id rfl
@[simp] theorem axt (x:File):(cd x).c 14=.int x.bill.parts:=_root_.id rfl
@[simp] theorem axu (x:File):(cd x).c 15=signs x.signs:=_root_.id rfl
@[simp] theorem axv (x:File):(cd x).c 16=alters x.alters:=_root_.id rfl
@[simp] theorem axw (x:File):(cd x).c 17=acts x.acts:=_root_.id rfl
@[simp] theorem axx (x:File):(cd x).c 18=facts x.facts:=_root_.id rfl
abbrev av8:Ty:=.agg [.int .i64,.int .i64,.int .i64,.int .i64,.int .i64,.int .i64,.int .i64,.int .i64,.int .i64,.int .i64,.int .i64,.int .i64,.int .i64,.int .i64,.int .i64,.slice Wc,.slice V2,.slice V1,.slice V5]
def File.OK (x:File):Prop:=Bill.OK x.bill∧(x.signs.length≤maxLen∧∀y,y∈x.signs→Sign.OK y)∧(x.alters.length≤maxLen∧∀y,y∈x.alters→Alter.OK y)∧(x.acts.length≤maxLen∧∀y,y∈x.acts→Act.OK y)∧(x.facts.length≤maxLen∧∀y,y∈x.facts→Fact.OK y)
theorem aiT {d:D}(h:DTy av8 d):∃x:File,d=cd x∧x.OK:=by
 obtain⟨ds,rfl,hs⟩:=h.agg_inv;obtain⟨d0,ds,rfl,h0,hs⟩:=hs.cons_inv;obtain⟨d1,ds,rfl,h1,hs⟩:=hs.cons_inv;obtain⟨d2,ds,rfl,h2,hs⟩:=hs.cons_inv;obtain⟨d3,ds,rfl,h3,hs⟩:=hs.cons_inv;obtain⟨d4,ds,rfl,h4,hs⟩:=hs.cons_inv;obtain⟨d5,ds,rfl,h5,hs⟩:=hs.cons_inv;obtain⟨d6,ds,rfl,h6,hs⟩:=hs.cons_inv;obtain⟨d7,ds,rfl,h7,hs⟩:=hs.cons_inv;obtain⟨d8,ds,rfl,h8,hs⟩:=hs.cons_inv;obtain⟨d9,ds,rfl,h9,hs⟩:=hs.cons_inv;obtain⟨d10,ds,rfl,m3,hs⟩:=hs.cons_inv;obtain⟨d11,ds,rfl,m4,hs⟩:=hs.cons_inv;obtain⟨d12,ds,rfl,ln,hs⟩:=hs.cons_inv;obtain⟨d13,ds,rfl,Ye,hs⟩:=hs.cons_inv;obtain⟨d14,ds,rfl,h14,hs⟩:=hs.cons_inv;obtain⟨d15,ds,rfl,Il,hs⟩:=hs.cons_inv;obtain⟨d16,ds,rfl,Io,hs⟩:=hs.cons_inv;obtain⟨d17,ds,rfl,Ip,hs⟩:=hs.cons_inv;obtain⟨d18,ds,rfl,Iq,hs⟩:=hs.cons_inv;obtain rfl:=hs.nil_inv;obtain⟨n0,rfl,b0⟩:=h0.i64_inv;obtain⟨n1,rfl,b1⟩:=h1.i64_inv;obtain⟨n2,rfl,b2⟩:=h2.i64_inv;obtain⟨n3,rfl,b3⟩:=h3.i64_inv;obtain⟨n4,rfl,b4⟩:=h4.i64_inv;obtain⟨n5,rfl,b5⟩:=h5.i64_inv;obtain⟨n6,rfl,b6⟩:=h6.i64_inv;obtain⟨n7,rfl,b7⟩:=h7.i64_inv;obtain⟨n8,rfl,b8⟩:=h8.i64_inv;obtain⟨n9,rfl,b9⟩:=h9.i64_inv;obtain⟨n10,rfl,F1⟩:=m3.i64_inv;obtain⟨n11,rfl,F2⟩:=m4.i64_inv;obtain⟨n12,rfl,F3⟩:=ln.i64_inv;obtain⟨n13,rfl,F4⟩:=Ye.i64_inv;obtain⟨n14,rfl,F5⟩:=h14.i64_inv;obtain⟨n15,rfl,F6,c15⟩:=asB Il;obtain⟨n16,rfl,F7,c16⟩:=agA Io;obtain⟨n17,rfl,F8,c17⟩:=agx Ip;obtain⟨n18,rfl,F9,c18⟩:=aiS Iq;exact⟨⟨⟨n0,n1,n2,n3,n4,⟨n5,n6,n7⟩,n8,n9,n10,n11,n12,n13,n14⟩,n15,n16,n17,n18⟩,rfl,⟨⟨b0,b1,b2,b3,b4,⟨b5,b6,b7⟩,b8,b9,F1,F2,F3,F4,F5⟩,⟨F6,c15⟩,⟨F7,c16⟩,⟨F8,c17⟩,⟨F9,c18⟩⟩⟩
structure Case where
 file:File
 sign:Int
 holder:Int
 defence:Int
 due:Int
 day:Int
 deriving Inhabited
def ei (x:Case):D:=.agg [.int x.file.bill.drawer,.int x.file.bill.drawee,.int x.file.bill.payee,.int x.file.bill.sum,.int x.file.bill.currency,.int x.file.bill.tenor.kind,.int x.file.bill.tenor.n,.int x.file.bill.tenor.unit,.int x.file.bill.day,.int x.file.bill.city,.int x.file.bill.pay,.int x.file.bill.need,.int x.file.bill.rate,.int x.file.bill.flags,.int x.file.bill.parts,signs x.file.signs,alters x.file.alters,acts x.file.acts,facts x.file.facts,.int x.sign,.int x.holder,.int x.defence,.int x.due,.int x.day]
@[simp] theorem aw0 (x:Case):(ei x).cells=[.int x.file.bill.drawer,.int x.file.bill.drawee,.int x.file.bill.payee,.int x.file.bill.sum,.int x.file.bill.currency,.int x.file.bill.tenor.kind,.int x.file.bill.tenor.n,.int x.file.bill.tenor.unit,.int x.file.bill.day,.int x.file.bill.city,.int x.file.bill.pay,.int x.file.bill.need,.int x.file.bill.rate,.int x.file.bill.flags,.int x.file.bill.parts,signs x.file.signs,alters x.file.alters,acts x.file.acts,facts x.file.facts,.int x.sign,.int x.holder,.int x.defence,.int x.due,.int x.day]:=_root_.id rfl
@[simp] theorem aBX (x:Case):D.agg [.int x.file.bill.drawer,.int x.file.bill.drawee,.int x.file.bill.payee,.int x.file.bill.sum,.int x.file.bill.currency,.int x.file.bill.tenor.kind,.int x.file.bill.tenor.n,.int x.file.bill.tenor.unit,.int x.file.bill.day,.int x.file.bill.city,.int x.file.bill.pay,.int x.file.bill.need,.int x.file.bill.rate,.int x.file.bill.flags,.int x.file.bill.parts,signs x.file.signs,alters x.file.alters,acts x.file.acts,facts x.file.facts,.int x.sign,.int x.holder,.int x.defence,.int x.due,.int x.day]=ei x:=_root_.id rfl
@[simp] theorem agy (x:Case):gX 24 (ei x)=ei x:=_root_.id rfl
@[simp] theorem aqn (x:Case)(a0 a1 a2 a3 a4 a5 a6 a7 a8 a9 gV iY gW iZ ja jU jV jW km Bq Br Bs Bt Bu:D):D.agg (cV [a0,a1,a2,a3,a4,a5,a6,a7,a8,a9,gV,iY,gW,iZ,ja,jU,jV,jW,km,Bq,Br,Bs,Bt,Bu] 0 [.int x.file.bill.drawer,.int x.file.bill.drawee,.int x.file.bill.payee,.int x.file.bill.sum,.int x.file.bill.currency,.int x.file.bill.tenor.kind,.int x.file.bill.tenor.n,.int x.file.bill.tenor.unit,.int x.file.bill.day,.int x.file.bill.city,.int x.file.bill.pay,.int x.file.bill.need,.int x.file.bill.rate,.int x.file.bill.flags,.int x.file.bill.parts,signs x.file.signs,alters x.file.alters,acts x.file.acts,facts x.file.facts,.int x.sign,.int x.holder,.int x.defence,.int x.due,.int x.day])=ei x:=_root_.id rfl
@[simp] theorem awZ (x:Case):(ei x).c 9=.int x.file.bill.city:=_root_.id rfl
@[simp] theorem awS (x:Case):(ei x).c 10=.int x.file.bill.pay:=_root_.id rfl
@[simp] theorem awT (x:Case):(ei x).c 15=signs x.file.signs:=_root_.id rfl
@[simp] theorem awU (x:Case):(ei x).c 19=.int x.sign:=_root_.id rfl
@[simp] theorem awV (x:Case):(ei x).c 20=.int x.holder:=_root_.id rfl
@[simp] theorem awW (x:Case):(ei x).c 21=.int x.defence:=_root_.id rfl
@[simp] theorem awX (x:Case):(ei x).c 22=.int x.due:=_root_.id rfl
@[simp] theorem awY (x:Case):(ei x).c 23=.int x.day:=_root_.id rfl
def cases(l:List Case):D:=.list (l.map ei)
structure Cell where
 known:Bool
 n:Int
 deriving DecidableEq,Inhabited
def bX (x:Cell):D:=.agg [.bool x.known,.int x.n]
@[simp] theorem aw3 (x:Cell):(bX x).cells=[.bool x.known,.int x.n]:=_root_.id rfl
@[simp] theorem aBY (x:Cell):D.agg [.bool x.known,.int x.n]=bX x:=_root_.id rfl
@[simp] theorem aw1 (x:Cell):(bX x).c 0=.bool x.known:=_root_.id rfl
@[simp] theorem aw2 (x:Cell):(bX x).c 1=.int x.n:=_root_.id rfl
def cells (l:List Cell):D:=.list (l.map bX)
@[simp] theorem azy (l:List Cell):(cells l).l=l.map bX:=_root_.id rfl
@[simp] theorem azx (l:List Cell):(cells l).cells=[cells l]:=_root_.id rfl
structure Said where
 cell:Cell
 order:Int
 path:List Int
 err:Int
 deriving Inhabited
def jz (x:Said):D:=.agg [.bool x.cell.known,.int x.cell.n,.int x.order,ints x.path,.int x.err]
@[simp] theorem aya (x:Said):(jz x).cells=[.bool x.cell.known,.int x.cell.n,.int x.order,ints x.path,.int x.err]:=_root_.id rfl
@[simp] theorem aCb (x:Said):D.agg [.bool x.cell.known,.int x.cell.n,.int x.order,ints x.path,.int x.err]=jz x:=_root_.id rfl
@[simp] theorem azc (x:Said):gX 5 (jz x)=jz x:=_root_.id rfl
@[simp] theorem ax9 (x:Said):(jz x).c 4=.int x.err:=_root_.id rfl
structure Effect where
 sign:Int
 kind:Int
 firm:Int
 binds:Int
 text:Int
 sum:Int
 recourse:Bool
 deriving DecidableEq,Inhabited
def jc (x:Effect):D:=.agg [.int x.sign,.int x.kind,.int x.firm,.int x.binds,.int x.text,.int x.sum,.bool x.recourse]
@[simp] theorem axl (x:Effect):(jc x).cells=[.int x.sign,.int x.kind,.int x.firm,.int x.binds,.int x.text,.int x.sum,.bool x.recourse]:=_root_.id rfl
@[simp] theorem aB1 (x:Effect):D.agg [.int x.sign,.int x.kind,.int x.firm,.int x.binds,.int x.text,.int x.sum,.bool x.recourse]=jc x:=_root_.id rfl
@[simp] theorem ay8 (x:Effect):gX 7 (jc x)=jc x:=_root_.id rfl
@[simp] theorem axe (x:Effect):(jc x).c 0=.int x.sign:=_root_.id rfl
@[simp] theorem axf (x:Effect):(jc x).c 1=.int x.kind:=_root_.id rfl
@[simp] theorem axg (x:Effect):(jc x).c 2=.int x.firm:=_root_.id rfl
@[simp] theorem axh (x:Effect):(jc x).c 3=.int x.binds:=_root_.id rfl
@[simp] theorem axi (x:Effect):(jc x).c 4=.int x.text:=_root_.id rfl
@[simp] theorem axj (x:Effect):(jc x).c 5=.int x.sum:=_root_.id rfl
@[simp] theorem axk (x:Effect):(jc x).c 6=.bool x.recourse:=_root_.id rfl
def od (l:List Effect):D:=.list (l.map jc)
@[simp] theorem az1 (l:List Effect):(od l).l=l.map jc:=_root_.id rfl
@[simp] theorem aC6 (a0 x0:D):cV [a0] 0 [x0]=[x0]:=_root_.id rfl
@[simp] theorem aC7 (a0 a1 x0 x1:D):cV [a0,a1] 0 [x0,x1]=[x0,x1]:=_root_.id rfl
@[simp] theorem aC8 (a0 a1 a2 x0 x1 x2:D):cV [a0,a1,a2] 0 [x0,x1,x2]=[x0,x1,x2]:=_root_.id rfl
@[simp] theorem aC9 (a0 a1 a2 a3 x0 x1 x2 x3:D):cV [a0,a1,a2,a3] 0 [x0,x1,x2,x3]=[x0,x1,x2,x3]:=_root_.id rfl
@[simp] theorem aDa (a0 a1 a2 a3 a4 x0 x1 x2 x3 x4:D):cV [a0,a1,a2,a3,a4] 0 [x0,x1,x2,x3,x4]=[x0,x1,x2,x3,x4]:=_root_.id rfl
@[simp] theorem aDb (a0 a1 a2 a3 a4 a5 x0 x1 x2 x3 x4 x5:D):cV [a0,a1,a2,a3,a4,a5] 0 [x0,x1,x2,x3,x4,x5]=[x0,x1,x2,x3,x4,x5]:=_root_.id rfl
@[simp] theorem aDc (a0 a1 a2 a3 a4 a5 a6 x0 x1 x2 x3 x4 x5 x6:D):cV [a0,a1,a2,a3,a4,a5,a6] 0 [x0,x1,x2,x3,x4,x5,x6]=[x0,x1,x2,x3,x4,x5,x6]:=_root_.id rfl
@[simp] theorem aDd (a0 a1 a2 a3 a4 a5 a6 a7 a8 x0 x1 x2 x3 x4 x5 x6 x7 x8:D):cV [a0,a1,a2,a3,a4,a5,a6,a7,a8] 0 [x0,x1,x2,x3,x4,x5,x6,x7,x8]=[x0,x1,x2,x3,x4,x5,x6,x7,x8]:=_root_.id rfl
end Rm
set_option maxRecDepth 100000
namespace Rm
open Go Go.Proofs Cx
abbrev I:Ty:=.int .i64
abbrev Y0:Ty:=.agg [.str,I,I,(.slice I),(.slice I),(.slice I)]
abbrev Y1:Ty:=.agg [I]
abbrev Y2:Ty:=.agg [.str,I,I]
abbrev Y3:Ty:=.agg [I,I,.bool]
abbrev Y4:Ty:=.agg [I,I,I,(.slice .trm)]
abbrev Y5:Ty:=.agg [.str,.bool,(.slice Y3),(.slice Y4)]
abbrev Y6:Ty:=.agg [I,I,I]
abbrev Y7:Ty:=.agg [I,I,I,I,I]
abbrev Y8:Ty:=.agg [(.slice .str),(.slice Y0),(.slice Y1),(.slice Y2),(.slice Y5),(.slice Y6),(.slice Y7),(.slice Y6)]
abbrev Y9:Ty:=.agg [I,I,I,I,I,I,I,I,I]
abbrev qO:Ty:=.agg [I,I]
abbrev dQ:Ty:=.agg [I,I,I,I,I,I,I,I,I,I,I,I,I,I,I,(.slice Y9),(.slice qO),(.slice Y9),(.slice Y6)]
abbrev sL:Ty:=.agg [I,I,I,I,I,I,.bool]
abbrev qP:Ty:=.agg [.bool,I,I,(.slice I),I]
abbrev FU:Ty:=.agg [(.slice .str),(.slice Y0),(.slice Y1),(.slice Y2),(.slice Y5),(.slice Y6),(.slice Y7),(.slice Y6),I,I,I,I,I,I,I,I,I,I,I,I,I,I,I,I,I,(.slice Y9),(.slice qO),(.slice Y9),(.slice Y6),I,I]
abbrev FV:Ty:=.agg [I,I,I,I,I,I,I,I,I,I,I,I,I,I,I]
abbrev k9:Ty:=.agg [I,I,I,I,I,I,I,I,I,I,I,I,I,I,I,(.slice Y9),(.slice qO),(.slice Y9),(.slice Y6),I,I,I,I,I]
abbrev kl:Ty:=.agg [I,I,(.slice .trm)]
abbrev dq:Ty:=.agg [.bool,I]
abbrev WM:Ty:=.agg [(.slice dq)]
abbrev Y20:Ty:=.agg [(.slice I),I]
def uw:List (Nat×Sig):=[
 (3,⟨[Y8,I,dQ,I,I,(.int .u8),(.int .u8)],.bool,.dat⟩),
 (5,⟨[],.bool,.dat⟩),
 (6,⟨[Y8,dQ],.bool,.dat⟩),
 (7,⟨[Y8,I,dQ,I,I],(.tup [sL,.bool]),.dat⟩),
 (8,⟨[Y8,I,dQ,I,I],(.tup [sL,.bool]),.dat⟩),
 (9,⟨[(.slice sL),(.slice sL)],.bool,.dat⟩),
 (10,⟨[Y8,I,dQ,I],(.slice sL),.dat⟩),
 (11,⟨[Y8,I,dQ,I],(.slice sL),.dat⟩),
 (12,⟨[I,I],I,.dat⟩),
 (13,⟨[I,I],I,.dat⟩),
 (16,⟨[Y8,I,dQ,I],I,.dat⟩),
 (22,⟨[qP],I,.dat⟩),
 (23,⟨[],(.tup [Y8,dQ]),.dat⟩),
 (24,⟨[Y8,dQ],.bool,.dat⟩),
 (25,⟨[Y8],I,.dat⟩),
 (26,⟨[Y8,I,dQ,I],FU,.dat⟩),
 (27,⟨[FU,I],sL,.dat⟩),
 (28,⟨[dQ,I],dQ,.dat⟩),
 (29,⟨[Y8,I,dQ,I,I],sL,.dat⟩),
 (30,⟨[(.slice I)],I,.dat⟩),
 (33,⟨[dQ,I],dQ,.dat⟩),
 (34,⟨[qP],I,.dat⟩),
 (35,⟨[Y8,I,I,dQ,I],qP,.dat⟩),
 (36,⟨[Y8,FV,I,I],(.tup [I,I]),.dat⟩),
 (37,⟨[dQ],I,.dat⟩),
 (51,⟨[Y8,I,dQ,I],I,.dat⟩),
 (52,⟨[Y8,I,I,k9],qP,.dat⟩),
 (54,⟨[I],kl,.dat⟩),
 (55,⟨[Y8],.bool,.dat⟩),
 (56,⟨[dQ],.bool,.dat⟩),
 (57,⟨[Y5],.bool,.dat⟩),
 (58,⟨[Y8],I,.dat⟩),
 (59,⟨[Y8],I,.dat⟩),
 (60,⟨[Y8],I,.dat⟩),
 (61,⟨[Y8],I,.dat⟩),
 (62,⟨[Y8],I,.dat⟩),
 (63,⟨[dQ,I,I],.bool,.dat⟩),
 (64,⟨[FU,I,I],I,.dat⟩),
 (65,⟨[FU,I],(.tup [I,I]),.dat⟩),
 (66,⟨[qP],I,.dat⟩),
 (67,⟨[Y8,I,I,dQ,I],qP,.dat⟩),
 (68,⟨[Y8,I,I,dQ,I,I],I,.dat⟩),
 (69,⟨[dQ,I,I],.bool,.dat⟩),
 (70,⟨[dQ,I],I,.dat⟩),
 (71,⟨[dQ,I],.bool,.dat⟩),
 (72,⟨[I,I],.bool,.dat⟩),
 (73,⟨[Y8,I,I,k9],qP,.dat⟩),
 (74,⟨[Y8],I,.dat⟩),
 (75,⟨[Y8,I],.bool,.dat⟩),
 (76,⟨[I],.bool,.dat⟩),
 (77,⟨[Y6],.bool,.dat⟩),
 (78,⟨[Y8,FV,I],(.tup [I,I]),.dat⟩),
 (79,⟨[Y8,I,I],(.tup [I,I]),.dat⟩),
 (80,⟨[(.slice I)],I,.dat⟩),
 (83,⟨[Y8,I,I],(.tup [I,I]),.dat⟩),
 (93,⟨[(.slice I),I],.bool,.dat⟩),
 (94,⟨[qP],I,.dat⟩),
 (95,⟨[Y8,FV,I,I],(.tup [I,I]),.dat⟩),
 (96,⟨[dQ],I,.dat⟩),
 (97,⟨[Y8,I,k9],(.slice I),.dat⟩),
 (98,⟨[I],.bool,.dat⟩),
 (99,⟨[Y8,I,I,(.slice I)],(.tup [(.slice I),I]),.dat⟩),
 (100,⟨[Y5,I,(.slice dq)],(.tup [dq,I]),.dat⟩),
 (101,⟨[Y8,k9],(.slice dq),.dat⟩),
 (102,⟨[I],.bool,.dat⟩),
 (103,⟨[Y0,I],(.tup [I,I]),.dat⟩),
 (104,⟨[kl],.bool,.dat⟩),
 (105,⟨[(.slice .str),I],I,.dat⟩),
 (106,⟨[Y8,Y0],.bool,.dat⟩),
 (107,⟨[I,I,I],.bool,.dat⟩),
 (108,⟨[Y5],.bool,.dat⟩),
 (109,⟨[dQ,I],(.map I .bool),.dat⟩),
 (110,⟨[dQ,I],I,.dat⟩),
 (111,⟨[Y8,I,I,k9],(.tup [qP,(.slice dq)]),.dat⟩),
 (112,⟨[Y5,I,(.slice dq)],(.tup [dq,I]),.dat⟩),
 (113,⟨[Y8],(.tup [(.slice .str),(.slice .str),(.slice .str)]),.dat⟩),
 (114,⟨[(.slice .str),I,(.fn [I] .bool)],I,.dat⟩),
 (115,⟨[I],.bool,.dat⟩),
 (116,⟨[I,(.ref Y8)],.bool,.dat⟩),
 (117,⟨[Y8,Y0],.bool,.dat⟩),
 (118,⟨[I,I],.bool,.dat⟩),
 (119,⟨[I,(.ref Y8)],.bool,.dat⟩),
 (120,⟨[I,(.ref Y8)],.bool,.dat⟩),
 (121,⟨[Y5],.bool,.dat⟩),
 (122,⟨[Y8],I,.dat⟩),
 (123,⟨[Y8],I,.dat⟩),
 (124,⟨[I,Y6],(.tup [I,I]),.dat⟩),
 (125,⟨[Y8,I],I,.dat⟩),
 (126,⟨[Y8,I,I],I,.dat⟩),
 (127,⟨[Y0,I],(.tup [I,I]),.dat⟩),
 (132,⟨[(.slice I),I],I,.dat⟩),
 (133,⟨[Y8,I],.bool,.dat⟩),
 (134,⟨[Y6],.bool,.dat⟩),
 (135,⟨[Y8,I,I],(.tup [I,I]),.dat⟩),
 (136,⟨[Y8,FV,I],I,.dat⟩),
 (137,⟨[Y8,I,I],(.tup [I,I]),.dat⟩),
 (138,⟨[Y8,I],I,.dat⟩),
 (139,⟨[Y8,(.slice I)],.bool,.dat⟩),
 (140,⟨[Y8,I,I,(.slice I)],(.tup [I,.bool]),.dat⟩),
 (141,⟨[Y5,I],I,.dat⟩),
 (142,⟨[kl,(.slice dq)],dq,.dat⟩),
 (143,⟨[Y5,I],I,.dat⟩),
 (144,⟨[I],.bool,.dat⟩),
 (145,⟨[Y8,k9],(.slice dq),.dat⟩),
 (146,⟨[Y0,I],(.tup [.bool,I]),.dat⟩),
 (147,⟨[kl,I,I],I,.dat⟩),
 (148,⟨[.str],.bool,.dat⟩),
 (149,⟨[(.slice .str),I,.str],.bool,.dat⟩),
 (150,⟨[(.slice I),I,I],.bool,.dat⟩),
 (151,⟨[Y8,k9],(.tup [k9,(.slice dq)]),.dat⟩),
 (152,⟨[I],(.tup [I,.bool]),.dat⟩),
 (153,⟨[Y8,I,k9],(.nsl I),.dat⟩),
 (154,⟨[Y8,I,I,(.slice I)],(.tup [(.slice I),I]),.dat⟩),
 (155,⟨[Y5,I],(.tup [kl,I]),.dat⟩),
 (156,⟨[kl,(.slice dq)],dq,.dat⟩),
 (157,⟨[(.slice .str),I],I,.dat⟩),
 (158,⟨[(.slice I),I,I],.bool,.dat⟩),
 (159,⟨[I,I],(.tup [I,I]),.dat⟩),
 (160,⟨[I],.bool,.dat⟩),
 (161,⟨[Y0,I,I],(.fn [(.fn [I] .bool)] (.tup [])),.dat⟩),
 (162,⟨[I,I],(.tup [I,I]),.dat⟩),
 (163,⟨[Y5,I],Y3,.dat⟩),
 (164,⟨[kl],(.tup [I,I]),.dat⟩),
 (165,⟨[I],(.tup [I,.bool]),.dat⟩),
 (166,⟨[kl,(.slice dq)],dq,.dat⟩),
 (167,⟨[I],dq,.dat⟩),
 (168,⟨[.bool],dq,.dat⟩),
 (169,⟨[I,I],.bool,.dat⟩),
 (170,⟨[dQ,I,I],dq,.dat⟩),
 (171,⟨[I],(.tup [I,I,I,I]),.dat⟩),
 (172,⟨[(.slice I),I],.bool,.dat⟩),
 (173,⟨[(.int .u8)],.bool,.dat⟩),
 (174,⟨[Y8,k9],(.slice dq),.dat⟩),
 (175,⟨[Y8,I,I,(.slice I)],.bool,.dat⟩),
 (176,⟨[Y8,I,I,(.slice I)],(.tup [I,.bool]),.dat⟩),
 (177,⟨[(.slice Y4),(.fn [Y4] .bool)],I,.dat⟩),
 (178,⟨[Y4,(.ref I)],.bool,.dat⟩),
 (179,⟨[kl],(.tup [I,I]),.dat⟩),
 (180,⟨[WM,kl],(.tup [dq,(.slice I)]),.dat⟩),
 (181,⟨[.str],.bool,.dat⟩),
 (182,⟨[(.slice .str),.str],.bool,.dat⟩),
 (183,⟨[I],(.tup [I,I,I]),.dat⟩),
 (184,⟨[I,I,I],(.tup [I,I]),.dat⟩),
 (185,⟨[I,I],I,.dat⟩),
 (187,⟨[Y0,I],.bool,.dat⟩),
 (188,⟨[I,I,I],(.tup [I,I]),.dat⟩),
 (189,⟨[I,I],I,.dat⟩),
 (190,⟨[kl],(.tup [I,I]),.dat⟩),
 (191,⟨[I,(.slice dq)],dq,.dat⟩),
 (192,⟨[dq,dq,I],dq,.dat⟩),
 (193,⟨[I,I,I],dq,.dat⟩),
 (194,⟨[I],I,.dat⟩),
 (195,⟨[(.slice qO),(.fn [qO] .bool)],.bool,.dat⟩),
 (196,⟨[qO,(.ref k9)],.bool,.dat⟩),
 (197,⟨[.bool],dq,.dat⟩),
 (198,⟨[dQ,I,I],dq,.dat⟩),
 (199,⟨[(.slice I),(.fn [I] .bool)],.bool,.dat⟩),
 (200,⟨[I,(.ref I)],.bool,.dat⟩),
 (201,⟨[kl,I],I,.dat⟩),
 (202,⟨[kl],(.tup [I,I]),.dat⟩),
 (203,⟨[WM,I],dq,.dat⟩),
 (204,⟨[I,(.slice dq)],dq,.dat⟩),
 (205,⟨[(.slice (.slice I))],(.slice I),.dat⟩),
 (206,⟨[(.slice .str),.str],I,.dat⟩),
 (207,⟨[I,I,I],I,.dat⟩),
 (208,⟨[I],.bool,.dat⟩),
 (209,⟨[I],I,.dat⟩),
 (210,⟨[kl],(.tup [I,I]),.dat⟩),
 (211,⟨[I,(.slice I)],(.tup [I,.bool]),.dat⟩),
 (212,⟨[I],(.tup [I,.bool]),.dat⟩),
 (213,⟨[I],I,.dat⟩),
 (214,⟨[.bool],dq,.dat⟩),
 (215,⟨[I,I],I,.dat⟩),
 (216,⟨[(.slice qO),(.fn [qO] .bool)],I,.dat⟩),
 (217,⟨[(.slice I),(.fn [I] .bool)],I,.dat⟩),
 (218,⟨[kl],(.tup [I,I]),.dat⟩),
 (219,⟨[I],Y20,.dat⟩),
 (220,⟨[I],(.tup [I,.bool]),.dat⟩),
 (221,⟨[.bool],dq,.dat⟩),
 (222,⟨[I],I,.dat⟩),
 (223,⟨[I,I,I],I,.dat⟩),
 (224,⟨[.nils .bool,I],(.slice I),(.row 3 I)⟩),
 (225,⟨[I,I],I,.dat⟩),
 (226,⟨[(.int .u64),(.int .u64)],(.tup [(.int .u64),(.int .u64)]),.dat⟩)]
def Nl:List (Nat×CSig):=[
 (115,⟨[],[I],.bool⟩),
 (116,⟨[(.ref Y8)],[I],.bool⟩),
 (119,⟨[(.ref Y8)],[I],.bool⟩),
 (120,⟨[(.ref Y8)],[I],.bool⟩),
 (178,⟨[(.ref I)],[Y4],.bool⟩),
 (186,⟨[(.ref I),(.ref I),(.ref Y0)],[(.fn [I] .bool)],(.tup [])⟩),
 (196,⟨[(.ref k9)],[qO],.bool⟩),
 (200,⟨[(.ref I)],[I],.bool⟩)]
def ctx:Ctx:={P:=Tryz.prog,cap:=bP Nl,sig:=bP uw,apy:=fun _=>none,glob:=Tg 0 [6,7,10,12,13,14,15,16,20,21]}
abbrev K6 (i:Nat):Sig:=(bP uw i).getD default
def cF (a b:List Nat)(f:Func)(i:Nat)(l:List Nat):Option PC:=l5 {ctx with fr:=a,nh:=b} f (K6 i) l
theorem aI {o:Option PC}{t:PT}{l:List (Shp×PT)}(h:o.map told=some (t,l)):tree (ab o)=t:=bz (F:=fun _=>(t,l)) h
theorem au (o:Option PC){p:PT×List (Shp×PT)}(h:o.map told=some p):o=some (ab o):=as7 (F:=fun _=>p) h
theorem aw (l a b:List Nat){f:Nat}{fn:Func}{c:PC}(h0:ctx.P.funcs[f]?=some fn)(h1:ctx.sig f=some (K6 f))(h2:l5 {ctx with fr:=a,nh:=b} fn (K6 f) l=some c):∃fn s ids fr nh,ctx.P.funcs[f]?=some fn∧ctx.sig f=some s∧l5 {ctx with fr:=fr,nh:=nh} fn s ids=some c:=⟨fn,K6 f,l,a,b,h0,h1,h2⟩
abbrev wK:PE:=.ai .quo .i64 (aY (aD (aY (.ai .rem .i64 (aD r0 (pi 730425)) (pi 146097)) (.ai .quo .i64 (.ai .rem .i64 (aD r0 (pi 730425)) (pi 146097)) (pi 1460))) (.ai .quo .i64 (.ai .rem .i64 (aD r0 (pi 730425)) (pi 146097)) (pi 36524))) (.ai .quo .i64 (.ai .rem .i64 (aD r0 (pi 730425)) (pi 146097)) (pi 146096))) (pi 365)
abbrev jL:PE:=.con (.agg [(.int 0),(.int 0),(.int 0),(.int 0),(.int 0),(.int 0),(.int 0),(.int 0),(.int 0),(.int 0),(.int 0),(.int 0),(.int 0),(.int 0),(.int 0),(.list []),(.list []),(.list []),(.list [])])
abbrev cQ:PE:=.con (.agg [(.bool false),(.int 0)])
abbrev Kb:PE:=.ai .quo .i64 (aD (.ai .mul .i64 (pi 5) (aY (.ai .rem .i64 (aD r0 (pi 730425)) (pi 146097)) (aY (aD (.ai .mul .i64 (pi 365) wK) (.ai .quo .i64 wK (pi 4))) (.ai .quo .i64 wK (pi 100))))) (pi 2)) (pi 153)
abbrev DV:PE:=.con (.agg [(.list []),(.list []),(.list []),(.list []),(.list []),(.list []),(.list []),(.list []),(.int 0),(.int 0),(.int 0),(.int 0),(.int 0),(.int 0),(.int 0),(.int 0),(.int 0),(.int 0),(.int 0),(.int 0),(.int 0),(.int 0),(.int 0),(.int 0),(.int 0),(.list []),(.list []),(.list []),(.list []),(.int 0),(.int 0)])
abbrev qd:PE:=.deref (.con (.ref (.agg [(.int 6),(.int 7),(.int 10),(.int 12),(.int 13),(.int 14),(.int 15),(.int 16),(.int 20),(.int 21)])))
abbrev rV:PE:=.con (.agg [(.int 0),(.int 0),(.int 0),(.int 0),(.int 0),(.int 0),(.bool false)])
abbrev Kf:PE:=.put (.put (.put (.put (.con (.map [])) (pi 7) (aP (.ai .and .i64 (pc o6 13) (pi 1)) (pi 0))) (pi 8) (ak (pc o6 2) (pi (-1)))) (pi 9) (aP (.ai .and .i64 (pc o6 13) (pi 4)) (pi 0))) (pi 10) (aP (.ai .and .i64 (pc o6 13) (pi 2)) (pi 0))
abbrev Kh:PE:=.pick (.pick kL (.nt kM) pF) (.pick (bj (pc (.pick (ah (pc o9 1) (pi 0)) (.setc o9 1 (pi 0)) o9) 1) (pi 20000)) (.setc (.pick (ah (pc o9 1) (pi 0)) (.setc o9 1 (pi 0)) o9) 1 (pi 20000)) (.pick (ah (pc o9 1) (pi 0)) (.setc o9 1 (pi 0)) o9)) o9
abbrev ke:PE:=.con (.agg [(.int 0),(.int 0),(.list [])])
abbrev jl:PE:=.setc (.mk [r3]) 18 pL
abbrev Rc:PE:=.mk [(pc (.mk [r0]) 10),(pc (.mk [r0]) 11),(pc (.mk [r0]) 12),(pc (.mk [r0]) 13),(pc (.mk [r0]) 14),(pc (.mk [r0]) 15),(pc (.mk [r0]) 16),(pc (.mk [r0]) 17),(pc (.mk [r0]) 18),(pc (.mk [r0]) 19),(pc (.mk [r0]) 20),(pc (.mk [r0]) 21),(pc (.mk [r0]) 22),(pc (.mk [r0]) 23),(pc (.mk [r0]) 24),(pc (.mk [r0]) 25),(pc (.mk [r0]) 26),(pc (.mk [r0]) 27),(pc (.mk [r0]) 28)]
abbrev rR:PE:=.mk [(pc (.setc o4 0 (.mk [pF,(pi 0)])) 0),(pc (.setc o4 0 (.mk [pF,(pi 0)])) 1)]
abbrev cj:PE:=pi 4294967296
abbrev rS:PE:=.con (.agg [(.int 0),(.int 0),(.bool false)])
abbrev rT:PE:=.con (.agg [(.bool false),(.int 0),(.int 0),(.list []),(.int 0)])
abbrev kJ:PE:=.con (.agg [(.list []),(.int 0)])
abbrev Rg:PE:=.con (.agg [(.int 0),(.int 0),(.int 0),(.int 0),(.int 0),(.int 0),(.int 0),(.int 0),(.int 0),(.int 0),(.int 0),(.int 0),(.int 0),(.int 0),(.int 0),(.list []),(.list []),(.list []),(.list []),(.int 0),(.int 0),(.int 0),(.int 0),(.int 0)])
abbrev wU:PE:=.setc z3 0 (.mk [(pc (.mk [r1]) 5),(pc (.mk [r1]) 6),(pc (.mk [r1]) 7)])
abbrev AF:PE:=.mk [(pc (.setc cQ 0 eC) 0),(pc (.setc cQ 0 eC) 1)]
abbrev ga:PE:=pc (.mk [r0]) 0
abbrev AG:PE:=.setc z9 0 (pn (pc (.mk [r2]) 15) (pc (.mk [r2]) 19))
abbrev Rh:PE:=.put (.put (.put (.con (.map [])) (pi 0) (pc o6 3)) (pi 1) (pc o6 14)) (pi 2) (pc o6 5)
abbrev J6:PE:=.pick (.pick (ak (.tget nD 0) (pi 0)) (pc bI 0) pF) (.setc bI 1 (.mn (.mx (pc bI 1) (pi 0)) (pi 20000))) bI
abbrev gd:PE:=ar 8 (.mk [r0])
abbrev DS:PE:=aD (aY (aD (.ai .mul .i64 (pi 12) (.tget gf 0)) (.tget gf 1)) (pi 1)) r1
abbrev adu:PE:=.mk [(.mk [(pc jl 0),(pc jl 1),(pc jl 2),(pc jl 3),(pc jl 4),(pc jl 5),(pc jl 6),(pc jl 7),(pc jl 8),(pc jl 9),(pc jl 10),(pc jl 11),(pc jl 12),(pc jl 13),(pc jl 14),(pc jl 15),(pc jl 16),(pc jl 17),pL]),(pi 0),(pi (-1)),(pi (-1)),(pi (-1)),r4]
abbrev adv:PE:=.ai .add .u64 (.ai .mul .u64 (.ai .shr .u64 r0 (.con (.v (.int .u64 32)))) (.ai .and .u64 r1 (.con (.v (.int .u64 4294967295))))) (.ai .shr .u64 (.ai .mul .u64 (.ai .and .u64 r0 (.con (.v (.int .u64 4294967295)))) (.ai .and .u64 r1 (.con (.v (.int .u64 4294967295))))) (.con (.v (.int .u64 32))))
abbrev wV:PE:=.setc (.setc bI 3 (.tget D9 0)) 4 (.tget D9 1)
abbrev jM:PE:=pc (.mk [r0]) 1
abbrev tY:PE:=.setc jL 0 (ar 19 (.mk [r1]))
abbrev J7:PE:=bj (.mx r0 (aY (pi 0) r0)) (.ai .quo .i64 (pi 1099511627776) (.mx r1 (aY (pi 0) r1)))
abbrev DT:PE:=pc (.mk [r0]) 2
abbrev J8:PE:=.mk [(pc (.setc cQ 0 (.mk [pF,(pi 0)])) 0),(pc (.setc cQ 0 (.mk [pF,(pi 0)])) 1)]
abbrev J9:PE:=.mk [(pc (.setc o6 0 (.mk [pF,(pi 0)])) 0),(pc (.setc o6 0 (.mk [pF,(pi 0)])) 1)]
abbrev Ka:PE:=aD (aY (aD (.ai .mul .i64 (pi 12) (.tget gx 0)) (.tget gx 1)) (pi 1)) r1
abbrev Ri:PE:=.setc (.setc (.setc o9 3 (.tget lI 0)) 4 (.tget lI 1)) 2 (pn (.tget lI 0) (aY (.llen (.tget lI 0)) (pi 1)))
abbrev mI:PE:=pn r1 (pi 0)
abbrev wW:PE:=ar 7 (.setc rV 0 (.tget nH 0))
abbrev kK:PE:=.llen (pc o1 1)
abbrev Rj:PE:=.mk [(pc (.setc o4 0 (.mk [(pi 0),(pi 0),pL])) 0),(pc (.setc o4 0 (.mk [(pi 0),(pi 0),pL])) 1),pL]
abbrev jN:PE:=pn r1 (pi 1)
abbrev DU:PE:=.setc z9 0 (pn (pc (.setc jL 0 ij) 15) r3)
abbrev AH:PE:=.setc z3 0 (pn bR ct)
abbrev lH:PE:=aD r5 (pi 1)
abbrev Rk:PE:=.mk [(pc (.setc cQ 0 (.mk [pT,(pi 1)])) 0),(pc (.setc cQ 0 (.mk [pT,(pi 1)])) 1)]
abbrev Rl:PE:=.mk [(pc (.setc cQ 0 (.mk [pT,(pi 0)])) 0),(pc (.setc cQ 0 (.mk [pT,(pi 0)])) 1)]
abbrev mJ:PE:=.llen (pc o1 3)
abbrev mK:PE:=.llen (pc o1 2)
abbrev adw:PE:=.pick (.pick (ak (.tget fA 0) (.con (.v (.int .u64 0)))) (ah (.tget fA 1) (.con (.v (.int .u64 1099511627776)))) pF) (.conv .i64 (.tget fA 1)) (pi 1099511627776)
abbrev Rm:PE:=ar 5 (.setc o8 0 (.mk [(pc bI 0),(pc bI 1),(pc bI 2),(.o 16394),(pc bI 4)]))
abbrev ny:PE:=.llen (pc o3 2)
abbrev nz:PE:=.llen (pc o1 4)
abbrev adx:PE:=.pick (.pick (.pick (ah (pc AG 2) (pi 0)) pT (bN (pc AG 2) (.llen (pc (.mk [r0]) 3)))) pT (ah r1 (pi 0))) pT (bN r1 (.llen (pc (.mk [r0]) 4)))
abbrev Rn:PE:=.put (.con (.map [])) (pi 7) (aP (.ai .and .i64 (pc o6 13) (pi 1)) (pi 0))
abbrev DW:PE:=.setc z9 0 (pn (pc (.mk [r0]) 25) r1)
abbrev oR:PE:=.llen (pc o4 4)
abbrev ady:PE:=.app o2 (.lst [(pc (.setc (.con (.agg [(.v (.string ⟨#[]⟩)),(.int 0),(.int 0),(.list []),(.list []),(.list [])])) 0 (pn bR ct)) 0)])
abbrev DX:PE:=aY (pi 2) (pc (pn o7 (pi 0)) 1)
abbrev adz:PE:=.pick (.pick (.pick (.pick (ah r0 (pi 2000)) pT (bj r0 (pi 2300))) pT (ah r1 (pi 1))) pT (bj r1 (pi 12))) pT (ah r2 (pi 1))
abbrev Kc:PE:=.setc ke 0 (.sub (pn (pc o2 3) gx) 1 3)
abbrev adA:PE:=.pick (.pick (.pick (ah (pc bI 0) (pi 0)) pT (bN (pc bI 0) (pi 5))) pT (ah (pc bI 2) (pi 0))) pT (bN (pc bI 2) (pi 2))
abbrev adB:PE:=.setc (.con (.agg [(.list []),(.list []),(.list []),(.list []),(.list []),(.list []),(.list []),(.list [])])) 0 (.tget r9 0)
abbrev nA:PE:=pn o5 (pi 0)
abbrev oS:PE:=ao r1 (pi 1)
abbrev rU:PE:=.tget AL 0
abbrev Kd:PE:=.pick (ah r1 (pi 3)) (aY r0 (pi 1)) r0
abbrev adC:PE:=.app o4 (.lst [(pc (.setc (.con (.agg [(.v (.string ⟨#[]⟩)),(.bool false),(.list []),(.list [])])) 0 (pn iQ lJ)) 0)])
abbrev qe:PE:=aD r8 (pi 1)
abbrev AI:PE:=.con (.v (.int .u64 32))
abbrev tZ:PE:=ar 19 (.mk [r2])
abbrev adD:PE:=.put (.put (.put Kf (pi 11) (aP D5 D6)) (pi 12) cU) (pi 13) (aP (.ai .and .i64 (pc o8 8) (pi 1)) (pi 0))
abbrev rW:PE:=pn o5 (pi 1)
abbrev wX:PE:=aP (pi 100) (pi 0)
abbrev qf:PE:=ao r1 (pi 0)
abbrev Ke:PE:=.setc z9 0 (pn (pc o5 15) (pc o5 19))
abbrev rX:PE:=aD r3 (pi 1)
abbrev Ro:PE:=.put (.put Rh (pi 3) (pc o6 12)) (pi 4) (pc o8 0)
abbrev adE:PE:=.pick (bj (.llen (pc (pn (pc o1 1) r3) 4)) (pi 70)) pT (bj (.llen (pc (pn (pc o1 1) r3) 5)) (pi 210))
abbrev Kg:PE:=.mk [(pc o1 0),(pc o1 1),(pc o1 2)]
abbrev oT:PE:=ah ct cU
abbrev DY:PE:=.setc rS 0 (pn gx eB)
abbrev oU:PE:=.llen DT
abbrev adF:PE:=.app o3 (.lst [(pc (.setc (.con (.agg [(.v (.string ⟨#[]⟩)),(.int 0),(.int 0)])) 0 (pn eB eC)) 0)])
abbrev adG:PE:=.app o4 (.lst [(pc (.setc (.con (.agg [(.int 0),(.int 0),(.int 0),(.list [])])) 0 (pn eC kL)) 0)])
abbrev ua:PE:=pc (.mk [r0]) 5
abbrev ub:PE:=pc (.mk [r0]) 4
abbrev uc:PE:=.llen (pc o1 0)
abbrev adH:PE:=.app (.o 69637) (.lst [(.mk [(pc (.setc z2 0 (pn sd oV)) 0),(pc (.setc z2 0 (pn sd oV)) 1)])])
abbrev DZ:PE:=ah r6 (.llen (pc o2 17))
abbrev D0:PE:=ah r5 (.llen (pc o2 15))
abbrev Rp:PE:=.setc z9 0 (pn (pc tY 15) (pc (.mk [r1]) 19))
abbrev Rq:PE:=.setc o4 0 (.mk [(pc o9 0),(pc o9 1),(pc o9 2)])
abbrev Rr:PE:=.setc (.setc o6 4 (.tget nH 0)) 5 (.tget nH 1)
abbrev D1:PE:=aP (pc o3 22) (pi (-1))
abbrev adI:PE:=.pick (.nt (.nt (.an (.an ct pT) (.nt pF)))) (.app (.o 1000) (.lst [(.tup [r5])])) (.o 1000)
abbrev D2:PE:=.llen (pc (.mk [r0]) 15)
abbrev ud:PE:=aD r7 (pi 1)
abbrev wZ:PE:=pn (pc o3 7) bY
abbrev wL:PE:=.setc cQ 0 mL
abbrev adk:PE:=.pick (bj (aD Kb (pi 3)) (pi 12)) (aY (aD Kb (pi 3)) (pi 12)) (aD Kb (pi 3))
abbrev wN:PE:=.llen (pc o2 16)
abbrev wO:PE:=.llen (pc o1 17)
abbrev adl:PE:=.setc o4 0 (.mk [(pc (.setc cQ 0 (.tget fB 0)) 0),(pc (.setc cQ 0 (.tget fB 0)) 1)])
abbrev DO:PE:=.setc z9 0 (pn D8 il)
abbrev DP:PE:=.mk [ga,jM,DT]
abbrev DQ:PE:=.app kH (.lst [rU])
abbrev Az:PE:=.rep (pi 5) (pi 0)
abbrev wP:PE:=pn (pc o1 4) r4
abbrev Q8:PE:=ak (.sidx r0 r3) (.con (.v (.int .u8 95)))
abbrev Q9:PE:=.pick (pc rW 0) (pc (pn o5 (pi 2)) 0) pF
abbrev adm:PE:=.pick (.pick (ak (pc AH 0) r1) (aX (pc AH 1) r2) pF) (aX r2 (pc AH 2)) pF
abbrev wQ:PE:=.llen (pc o1 7)
abbrev DR:PE:=.con (.agg [(.int 0)])
abbrev adn:PE:=aD wK (.ai .mul .i64 (pi 400) (.ai .quo .i64 (aD r0 (pi 730425)) (pi 146097)))
abbrev Ra:PE:=.an (bN (pi 5) (pi 0)) (aX (pi 5) cj)
abbrev qa:PE:=pn ct dk
abbrev ado:PE:=.pick (ak (pc (pn (pc o3 17) r7) 0) (pi 7)) (ak (pc (pn (pc o3 17) r7) 4) r1) pF
abbrev Rb:PE:=.app o5 (.lst [(pc (pn (pc o1 1) r6) 0)])
abbrev Rd:PE:=.app o4 (.lst [(pc (pn (pc o1 3) r5) 0)])
abbrev adp:PE:=.an (.cb .eql (pc mI 0) (pc AF 0)) (.an (ak (pc mI 1) (pc AF 1)) pT)
abbrev wR:PE:=aD r6 (pi 1)
abbrev AA:PE:=ak mI (pi 1)
abbrev rQ:PE:=pn bY bR
abbrev wS:PE:=ah r0 (pi 0)
abbrev adq:PE:=ar 7 (.setc bI 0 (.mk [(pi 0),(pi 0),(pi 0),(pi 0),(pi 0),(pi 0),pF]))
abbrev Re:PE:=ak (.ai .rem .i64 r0 (pi 4)) (pi 0)
abbrev AB:PE:=.llen (pc o3 4)
abbrev AD:PE:=.llen (pc o2 2)
abbrev AE:PE:=.llen (pc o1 5)
abbrev adr:PE:=.setc o4 0 (.mk [(pc (.setc cQ 0 se) 0),(pc (.setc cQ 0 se) 1)])
abbrev J5:PE:=aY (.llen kH) (pi 1)
abbrev wT:PE:=pn r3 (pi 2)
abbrev ads:PE:=.setc kJ 0 (.mk [(.lst [(pi 1),(pi (-1)),(pi (-1))]),(pi (-1))])
abbrev Rf:PE:=.ai .rem .i64 (pn r8 bY) (pi 100)
abbrev adt:PE:=.app (.o 77829) (.lst [(.mk [(pc kI 0),(pc kI 1),(pc kI 2)])])
end Rm
