/-
  Shared texts of this claim.
-/
import Derived.Test.YtepfoekldooaeaaDoorKAI
import Derived.Lib.LaidTab
import Derived.Test.YtepfoekldooaeaaDoorProg
set_option linter.unusedSimpArgs false
set_option linter.unusedVariables false
namespace Cx
open Go Go.RowKit
def aR (n:Int):Prop:=-9223372036854775808≤n∧n≤9223372036854775807
def ints (l:List Int):D:=.list (l.map .int)
theorem cd {n:Int}(h:-9223372036854775808≤n∧n≤9223372036854775807):IntKind.i64.wrap n=n:=by
 simp only[IntKind.wrap,IntKind.signed,IntKind.bits];simp;split<;>omega
theorem DTy.int_inv {k:IntKind}{d:D}(h:DTy (.int k) d):∃n,d=.v (.int k n)∧k.min≤n∧n≤k.max:=by
 cases h with
 |int k n h1 h2=>exact⟨n,rfl,h1,h2⟩
 |other t d h=>exact h.elim
theorem DTy.i64_inv {d:D}(h:DTy (.int .i64) d):∃n,d=.int n∧aR n:=by
 obtain⟨n,rfl,h1,h2⟩:=h.int_inv;exact⟨n,rfl,by simpa [IntKind.min,IntKind.max,IntKind.signed,IntKind.bits] using h1,by simpa [IntKind.min,IntKind.max,IntKind.signed,IntKind.bits] using h2⟩
theorem DTy.bool_inv {d:D}(h:DTy .bool d):∃b,d=.bool b:=by
 cases h with
 |bool b=>exact⟨b,rfl⟩
 |other t d h=>exact h.elim
theorem DTy.slice_inv {e:Ty}{d:D}(h:DTy (.slice e) d):∃xs,d=.list xs∧xs.length≤maxLen∧∀x,x∈xs→DTy e.unf x:=by
 cases h with
 |slice e xs hm h=>exact⟨xs,rfl,hm,h⟩
 |other t d h=>exact h.elim
theorem DTy.agg_inv {ts:List Ty}{d:D}(h:DTy (.agg ts) d):∃ds,d=.agg ds∧DTys ts ds:=by
 cases h with
 |agg ts ds h=>exact⟨ds,rfl,h⟩
 |other t d h=>exact h.elim
theorem DTys.cons_inv {t:Ty}{ts:List Ty}{ds:List D}(h:DTys (t::ts) ds):∃d ds',ds=d::ds'∧DTy t d∧DTys ts ds':=by
 cases h with
 |cons h hs=>exact⟨_,_,rfl,h,hs⟩
theorem DTys.nil_inv {ds:List D}(h:DTys [] ds):ds=[]:=by cases h;rfl
theorem gF {α:Type}{enc:α→D}{P:α→Prop}{xs:List D}(h:∀x,x∈xs→∃a,x=enc a∧P a):∃l:List α,xs=l.map enc∧∀a,a∈l→P a:=by
 induction xs with
 |nil=>exact⟨[],rfl,fun _ h=>nomatch h⟩
 |cons x xs ih=>
  obtain⟨l,hl,hp⟩:=ih fun y hy=>h y (List.mem_cons_of_mem _ hy);obtain⟨a,ha,pa⟩:=h x (List.mem_cons_self ..)
  exact⟨a::l,by rw[hl,ha];rfl,fun b hb=>by
   rcases List.mem_cons.1 hb with e|hb
   ·rw[e];exact pa
   ·exact hp b hb⟩
theorem DTy.ints_inv {d:D}(h:DTy (.slice (.int .i64)) d):∃l:List Int,d=ints l∧l.length≤maxLen∧∀x,x∈l→aR x:=by
 obtain⟨xs,rfl,hm,hx⟩:=h.slice_inv;obtain⟨l,rfl,hl⟩:=gF (enc:=D.int) (P:=aR) fun x hh=>(hx x hh).i64_inv;exact⟨l,rfl,by simpa using hm,hl⟩
section
variable (ρ:Env) (T:cB)
@[simp] theorem asW (t:Nat):PE.ev ρ (.r t)=ρ.r t:=_root_.id rfl
@[simp] theorem asT (t:Nat):PE.ev ρ (.o t)=ρ.o t:=_root_.id rfl
@[simp] theorem asF (d:D):PE.ev ρ (.con d)=d:=_root_.id rfl
@[simp] theorem asC (e:PE)(i:Nat):PE.ev ρ (.cell e i)=(PE.ev ρ e).c i:=_root_.id rfl
@[simp] theorem as4 (e:PE)(a n:Nat):PE.ev ρ (.sub e a n)=.agg (((PE.ev ρ e).cells.drop a).take n):=_root_.id rfl
@[simp] theorem asZ (e x:PE)(n:Nat):PE.ev ρ (.setc e n x)=.agg (dL (PE.ev ρ e).cells n (PE.ev ρ x).cells):=_root_.id rfl
@[simp] theorem asM (es:List PE):PE.ev ρ (.mk es)=.agg (PE.evc ρ es):=_root_.id rfl
@[simp] theorem asx (op:BinOp)(k:IntKind)(x y:PE):PE.ev ρ (.ai op k x y)=.v (.int k (cI op k (PE.ev ρ x).i (PE.ev ρ y).i)):=_root_.id rfl
@[simp] theorem asD (op:BinOp)(x y:PE):PE.ev ρ (.ci op x y)=.v (.bool (fm op (PE.ev ρ x).i (PE.ev ρ y).i)):=_root_.id rfl
@[simp] theorem asB (op:BinOp)(x y:PE):PE.ev ρ (.cb op x y)=.v (.bool (qG op (PE.ev ρ x).b (PE.ev ρ y).b)):=_root_.id rfl
@[simp] theorem asH (op:BinOp)(x y:PE):PE.ev ρ (.cs op x y)=.v (.bool (qH op (PE.ev ρ x).s (PE.ev ρ y).s)):=_root_.id rfl
@[simp] theorem asR (x:PE):PE.ev ρ (.nt x)=.v (.bool (!(PE.ev ρ x).b)):=_root_.id rfl
@[simp] theorem asG (k:IntKind)(x:PE):PE.ev ρ (.conv k x)=.v (.int k (k.wrap (PE.ev ρ x).i)):=_root_.id rfl
@[simp] theorem asU (c a b:PE):PE.ev ρ (.pick c a b)=if(PE.ev ρ c).b=true then PE.ev ρ a else PE.ev ρ b:=by
  simp only[PE.ev];cases(PE.ev ρ c).b<;>rfl
@[simp] theorem asN (n:Nat)(e:PE):PE.ev ρ (aQ n e)=jc n (PE.ev ρ e):=acw ρ n e
@[simp] theorem asA (x:PE):PE.ev ρ (.bytes x)=.list ((PE.ev ρ x).s.data.toList.map fun b=>.v (.int .u8 b.toNat)):=_root_.id rfl
@[simp] theorem asK (x:PE):PE.ev ρ (.llen x)=.v (.int .i64 (PE.ev ρ x).l.length):=_root_.id rfl
@[simp] theorem as2 (x:PE):PE.ev ρ (.slen x)=.v (.int .i64 (PE.ev ρ x).s.size):=_root_.id rfl
@[simp] theorem asO (x:PE):PE.ev ρ (.mlen x)=.v (.int .i64 (PE.ev ρ x).m.length):=_root_.id rfl
@[simp] theorem asS (x i:PE):PE.ev ρ (.nth x i)=(PE.ev ρ x).l.getD (PE.ev ρ i).i.toNat .none:=_root_.id rfl
@[simp] theorem asJ (x i:PE):PE.ev ρ (.idx x i)=.v (.bool (decide (0≤(PE.ev ρ i).i∧(PE.ev ρ i).i<(PE.ev ρ x).l.length))):=_root_.id rfl
@[simp] theorem as0 (x i y:PE)(n:Nat):PE.ev ρ (.setn x i n y)=.list ((PE.ev ρ x).l.set (PE.ev ρ i).i.toNat (ql ((PE.ev ρ x).l.getD (PE.ev ρ i).i.toNat .none) n (PE.ev ρ y))):=_root_.id rfl
@[simp] theorem asz (x y:PE):PE.ev ρ (.app x y)=.list ((PE.ev ρ x).l++(PE.ev ρ y).l):=_root_.id rfl
@[simp] theorem asL (es:List PE):PE.ev ρ (.lst es)=.list (PE.evs ρ es):=_root_.id rfl
@[simp] theorem asY (x y:PE):PE.ev ρ (.rep x y)=.list (List.replicate (PE.ev ρ x).i.toNat (PE.ev ρ y)):=_root_.id rfl
@[simp] theorem as1 (x a b:PE):PE.ev ρ (.slc x a b)=.list (((PE.ev ρ x).l.take (PE.ev ρ b).i.toNat).drop (PE.ev ρ a).i.toNat):=_root_.id rfl
@[simp] theorem as3 (x a b:PE):PE.ev ρ (.slok x a b)=.v (.bool (decide (0≤(PE.ev ρ a).i∧(PE.ev ρ a).i≤(PE.ev ρ b).i∧(PE.ev ρ b).i≤(PE.ev ρ x).l.length))):=_root_.id rfl
@[simp] theorem asX (x:PE):PE.ev ρ (.ref x)=.ref (PE.ev ρ x):=_root_.id rfl
@[simp] theorem asI (x:PE):PE.ev ρ (.deref x)=(PE.ev ρ x).deref:=_root_.id rfl
@[simp] theorem asV (m k v:PE):PE.ev ρ (.put m k v)=.map (iv (PE.ev ρ k) (PE.ev ρ v) (PE.ev ρ m).m):=_root_.id rfl
@[simp] theorem asP (x y:PE):PE.ev ρ (.mn x y)=if(PE.ev ρ y).i<(PE.ev ρ x).i then PE.ev ρ y else PE.ev ρ x:=by
  simp only[PE.ev];by_cases h:(PE.ev ρ y).i<(PE.ev ρ x).i<;>simp[h]
@[simp] theorem asQ (x y:PE):PE.ev ρ (.mx x y)=if(PE.ev ρ y).i>(PE.ev ρ x).i then PE.ev ρ y else PE.ev ρ x:=by
  simp only[PE.ev];by_cases h:(PE.ev ρ y).i>(PE.ev ρ x).i<;>simp[h]
@[simp] theorem as6 (es:List PE):PE.ev ρ (.tup es)=.tup (PE.evs ρ es):=_root_.id rfl
@[simp] theorem as5 (x:PE)(i:Nat):PE.ev ρ (.tget x i)=(PE.ev ρ x).tget i:=_root_.id rfl
@[simp] theorem asE (f:Nat)(es:List PE):PE.ev ρ (.clo f es)=.clo f (PE.evs ρ es):=_root_.id rfl
@[simp] theorem asy (x y:PE):PE.ev ρ (.an x y)=.v (.bool ((PE.ev ρ x).b&&(PE.ev ρ y).b)):=_root_.id rfl
@[simp] theorem ata:PE.evs ρ []=[]:=_root_.id rfl
@[simp] theorem as9 (e:PE)(es:List PE):PE.evs ρ (e::es)=PE.ev ρ e::PE.evs ρ es:=_root_.id rfl
@[simp] theorem as8:PE.evc ρ []=[]:=_root_.id rfl
@[simp] theorem as7 (e:PE)(es:List PE):PE.evc ρ (e::es)=(PE.ev ρ e).cells++PE.evc ρ es:=_root_.id rfl
@[simp] theorem abp (x:Bool):(D.bool x).b=x:=_root_.id rfl
@[simp] theorem asu (k:IntKind)(n:Int):(D.v (.int k n)).i=n:=_root_.id rfl
@[simp] theorem GL (n:Int):(D.int n).i=n:=_root_.id rfl
@[simp] theorem asq (x:List D):(D.list x).l=x:=_root_.id rfl
@[simp] theorem aso (l:List Int):(ints l).l=l.map .int:=_root_.id rfl
@[simp] theorem asr (x:List (D×D)):(D.map x).m=x:=_root_.id rfl
@[simp] theorem asd (x:List D)(i:Nat):(D.agg x).c i=x.getD i .none:=_root_.id rfl
@[simp] theorem ase (x:List D):(D.agg x).cells=x:=_root_.id rfl
@[simp] theorem asp (x:List D):(D.list x).cells=[.list x]:=_root_.id rfl
@[simp] theorem asn (x:List Int):(ints x).cells=[ints x]:=_root_.id rfl
@[simp] theorem asi (n:Int):(D.int n).cells=[.int n]:=_root_.id rfl
@[simp] theorem asf (n:Bool):(D.bool n).cells=[.bool n]:=_root_.id rfl
@[simp] theorem ast (x:List D)(i:Nat):(D.tup x).tget i=x.getD i .none:=_root_.id rfl
@[simp] theorem ass (x:D):(D.ref x).deref=x:=_root_.id rfl
@[simp] theorem au7 (s:SE)(t:Nat):(s.ev ρ).r t=PE.ev ρ (s.getR t):=_root_.id rfl
@[simp] theorem au6 (s:SE)(t:Nat):(s.ev ρ).o t=PE.ev ρ (s.getO t):=_root_.id rfl
@[simp] theorem atj (o:List (Nat×PE))(u:Nat):SE.getR ⟨[],o⟩ u=.r u:=_root_.id rfl
@[simp] theorem ati (t:Nat)(e:PE)(r o:List (Nat×PE))(u:Nat):SE.getR ⟨(t,e)::r,o⟩ u=if t=u then e else SE.getR ⟨r,o⟩ u:=by
  simp only[SE.getR,ab];by_cases h:t=u
  ·subst h;simp
  ·simp[dO h,h]
@[simp] theorem ath (r:List (Nat×PE))(u:Nat):SE.getO ⟨r,[]⟩ u=.o u:=_root_.id rfl
@[simp] theorem atg (t:Nat)(e:PE)(r o:List (Nat×PE))(u:Nat):SE.getO ⟨r,(t,e)::o⟩ u=if t=u then e else SE.getO ⟨r,o⟩ u:=by
  simp only[SE.getO,ab];by_cases h:t=u
  ·subst h;simp
  ·simp[dO h,h]
@[simp] theorem setR_r (t u:Nat)(d:D):(ρ.setR t d).r u=if u=t then d else ρ.r u:=Env.setR_r ρ t u d
@[simp] theorem avd (t u:Nat)(d:D):(ρ.setR t d).o u=ρ.o u:=_root_.id rfl
@[simp] theorem setO_o (t u:Nat)(d:D):(ρ.setO t d).o u=if u=t then d else ρ.o u:=Env.setO_o ρ t u d
@[simp] theorem avc (t u:Nat)(d:D):(ρ.setO t d).r u=ρ.r u:=_root_.id rfl
@[simp] theorem auY (lr lo:List Nat)(vr vo:List D)(u:Nat):(ρ.put lr vr lo vo).r u=putL ρ.r lr vr u:=_root_.id rfl
@[simp] theorem auX (lr lo:List Nat)(vr vo:List D)(u:Nat):(ρ.put lr vr lo vo).o u=putL ρ.o lo vo u:=_root_.id rfl
@[simp] theorem join_r (ρ':Env)(lr lo:List Nat)(u:Nat):(ρ.join lr lo ρ').r u=if u∈lr then ρ'.r u else ρ.r u:=Env.join_r ρ ρ' lr lo u
@[simp] theorem join_o (ρ':Env)(lr lo:List Nat)(u:Nat):(ρ.join lr lo ρ').o u=if u∈lo then ρ'.o u else ρ.o u:=Env.join_o ρ ρ' lr lo u
@[simp] theorem auV (f:Nat→D)(i:Nat)(is:List Nat)(x:D)(xs:List D)(u:Nat):putL f (i::is) (x::xs) u=if u=i then x else putL f is xs u:=Ez f i is x xs u
@[simp] theorem auW (f:Nat→D)(xs:List D)(u:Nat):putL f [] xs u=f u:=EA f xs u
@[simp] theorem asv (ds:List D)(u:Nat):(gR ds).r u=ds.getD u .none:=_root_.id rfl
@[simp] theorem atP:holds [] ρ=true:=_root_.id rfl
@[simp] theorem atO (g:Nat×Bool)(gs:List (Nat×Bool)):holds (g::gs) ρ=((ρ.r g.1).b==g.2&&holds gs ρ):=_root_.id rfl
variable (Q:Out→Prop)
@[simp] theorem avM (s:SE):ax T (.next s) ρ Q=Q (.next (s.ev ρ)):=_root_.id rfl
@[simp] theorem avJ (id:Nat)(s:SE):ax T (.exit id s) ρ Q=Q (.exit id (s.ev ρ)):=_root_.id rfl
@[simp] theorem avN (e:PE):ax T (.ret e) ρ Q=Q (.ret (e.ev ρ)):=_root_.id rfl
@[simp] theorem avI (e:PE)(k:PT):ax T (.chk e k) ρ Q=((e.ev ρ).b=true∧ax T k ρ Q):=_root_.id rfl
@[simp] theorem avK (c:PE)(a b:PT):ax T (.ite c a b) ρ Q=if(c.ev ρ).b=true then ax T a ρ Q else ax T b ρ Q:=_root_.id rfl
@[simp] theorem avG (s:SE)(gs:List (Nat×Bool))(dst f:Nat)(args:List PE)(k:PT):ax T (.call s gs dst f args k) ρ Q=if holds gs (s.ev ρ)=true then ∃d,au T f (PE.evs ρ args) d∧ax T k ((s.ev ρ).setR dst d) Q else ax T k (s.ev ρ) Q:=_root_.id rfl
@[simp] theorem avL (s:SE)(c:PE)(lr lo:List Nat)(a b k:PT):ax T (.iteS s c lr lo a b k) ρ Q=if(c.ev ρ).b=true then ax T a (s.ev ρ) (ij (s.ev ρ) lr lo (eU (fun ρ'=>ax T k ρ' Q) Q)) else ax T b (s.ev ρ) (ij (s.ev ρ) lr lo (eU (fun ρ'=>ax T k ρ' Q) Q)):=_root_.id rfl
@[simp] theorem avE (s:SE)(id:Nat)(lr lo:List Nat)(a k:PT):ax T (.blockS s id lr lo a k) ρ Q=ax T a (s.ev ρ) (je (s.ev ρ) id lr lo (eU (fun ρ'=>ax T k ρ' Q) Q)):=_root_.id rfl
@[simp] theorem avF (s:SE)(c:PC)(k:PT):ax T (.brk s c k) ρ Q=aU T c (s.ev ρ) (eU (fun ρ'=>ax T k ρ' Q) Q):=_root_.id rfl
variable (K:Env→Prop) (id:Nat) (lr lo bf be:List Nat) (K2:List D→List D→Prop)
@[simp] theorem ava (ρ':Env):eU K Q (.next ρ')=K ρ':=_root_.id rfl
@[simp] theorem au9 (i:Nat)(ρ':Env):eU K Q (.exit i ρ')=Q (.exit i ρ'):=_root_.id rfl
@[simp] theorem avb (d:D):eU K Q (.ret d)=Q (.ret d):=_root_.id rfl
@[simp] theorem auc (ρ':Env):ij ρ lr lo Q (.next ρ')=Q (.next (ρ.join lr lo ρ')):=_root_.id rfl
@[simp] theorem aud (d:D):ij ρ lr lo Q (.ret d)=Q (.ret d):=_root_.id rfl
@[simp] theorem arV (ρ':Env):je ρ id lr lo Q (.next ρ')=Q (.next (ρ.join lr lo ρ')):=_root_.id rfl
@[simp] theorem arU (i:Nat)(ρ':Env):je ρ id lr lo Q (.exit i ρ')=if i=id then Q (.next (ρ.join lr lo ρ')) else Q (.exit i ρ'):=_root_.id rfl
@[simp] theorem arW (d:D):je ρ id lr lo Q (.ret d)=Q (.ret d):=_root_.id rfl
@[simp] theorem au2 (ρ':Env):dz ρ id bf be lr lo K2 Q (.next ρ')=K2 (lr.map ρ'.r) (lo.map ρ'.o):=_root_.id rfl
@[simp] theorem au1 (i:Nat)(ρ':Env):dz ρ id bf be lr lo K2 Q (.exit i ρ')=if i=id then Q (.next (ρ.put bf (bf.map ρ'.r) be (be.map ρ'.o))) else Q (.exit i ρ'):=_root_.id rfl
@[simp] theorem au3 (d:D):dz ρ id bf be lr lo K2 Q (.ret d)=Q (.ret d):=_root_.id rfl
@[simp] theorem avH (s:SE)(gs:List (Nat×Bool))(dst:Nat)(e:PE)(args:List PE)(k:PT):ax T (.callc s gs dst e args k) ρ Q=if holds gs (s.ev ρ)=true then ∃f caps d,e.ev ρ=.clo f caps∧au T f (PE.evs ρ args++caps) d∧ax T k ((s.ev ρ).setR dst d) Q else ax T k (s.ev ρ) Q:=_root_.id rfl
end
section
variable (k:IntKind) (a b:Int)
@[simp] theorem arO:cI .add k a b=k.wrap (a+b):=_root_.id rfl
@[simp] theorem arR:cI .sub k a b=k.wrap (a-b):=_root_.id rfl
@[simp] theorem arP:cI .mul k a b=k.wrap (a*b):=_root_.id rfl
@[simp] theorem arQ:cI .rem k a b=a.tmod b:=_root_.id rfl
@[simp] theorem ar5:fm .eql a b=(a==b):=_root_.id rfl
@[simp] theorem asa:fm .neq a b=(a !=b):=_root_.id rfl
@[simp] theorem ar9:fm .lss a b=decide (a<b):=_root_.id rfl
@[simp] theorem ar8:fm .leq a b=decide (a≤b):=_root_.id rfl
@[simp] theorem ar7:fm .gtr a b=decide (a>b):=_root_.id rfl
@[simp] theorem ar6:fm .geq a b=decide (a≥b):=_root_.id rfl
variable (x y:Bool)
@[simp] theorem arY:qG .eql x y=(x==y):=_root_.id rfl
@[simp] theorem arZ:qG .neq x y=(!(x==y)):=_root_.id rfl
end
theorem au.of_tree {tab:Nat→Option PC}{ext:Nat→Option (aO→List D→Option D)}{f:Nat}{pc:PC}{t:PT}{ds:List D}{d:D}(hx:ext f=none)(ht:tab f=some pc)(he:tree pc=t)(h:ax (cr tab ext) t (gR ds) (fun x=>x=.ret d)):au (cr tab ext) f ds d:=
 .of_pc hx ht (Nj (he▸h))
@[simp] theorem asl (n:Int):D.v (.int .i64 n)=D.int n:=_root_.id rfl
@[simp] theorem ash (b:Bool):D.v (.bool b)=D.bool b:=_root_.id rfl
@[simp] theorem asj (a b:Int):(D.int a=D.int b)=(a=b):=by
  apply propext;constructor
  ·intro h;injection h with h;injection h
  ·intro h;rw[h]
@[simp] theorem asg (a b:Bool):(D.bool a=D.bool b)=(a=b):=by
  apply propext;constructor
  ·intro h;injection h with h;injection h
  ·intro h;rw[h]
section
variable (c:Prop) [Decidable c] (x y:D)
@[simp] theorem aua:(if c then x else y).b=if c then x.b else y.b:=by split<;>rfl
@[simp] theorem aub:(if c then x else y).i=if c then x.i else y.i:=by split<;>rfl
end
@[simp] theorem avO:IntKind.i64.wrap 0=0:=cd (by omega)
end Cx
namespace Cx
open Go
inductive Tm where
 |mk (op n:Int) (args:List Tm)
instance:Inhabited Tm:=⟨.mk 0 0 []⟩
namespace Tm
def op:Tm→Int|.mk o _ _=>o
def n:Tm→Int|.mk _ n _=>n
def args:Tm→List Tm|.mk _ _ aszz=>aszz
end Tm
mutual
def cS:Tm→D
 |.mk o n aszz=>.agg [.int o,.int n,.list (Bp aszz)]
def Bp:List Tm→List D
 |[]=>[]
 |t::ts=>cS t::Bp ts
end
theorem GV:∀l:List Tm,Bp l=l.map cS
 |[]=>rfl
 |t::l=>by rw[Bp,GV l];rfl
theorem wY (t:Tm):cS t=.agg [.int t.op,.int t.n,.list (t.args.map cS)]:=by
 cases t with
 |mk o n aszz=>rw[cS,GV];rfl
inductive Tm.OK:Tm→Prop where
 |mk (o n:Int) (aszz:List Tm) (h1:aR o) (h2:aR n) (h3:aszz.length≤maxLen) (h:∀a,a∈aszz→Tm.OK a):Tm.OK (.mk o n aszz)
theorem DTy.trm_inv {d:D}(h:DTy .trmA d):∃t:Tm,d=cS t∧t.OK:=by
 suffices hs:∀(m:Nat) (d:D),sizeOf d≤m→DTy .trmA d→∃t:Tm,d=cS t∧t.OK from hs _ d (Nat.le_refl _) h
 intro m
 induction m with
 |zero=>
  intro d hm h;cases d<;>simp at hm
 |succ m ih=>
  intro d hm h;obtain⟨ds,rfl,hs⟩:=DTy.agg_inv h;obtain⟨d1,ds,rfl,h1,hs⟩:=hs.cons_inv;obtain⟨d2,ds,rfl,h2,hs⟩:=hs.cons_inv;obtain⟨d3,ds,rfl,h3,hs⟩:=hs.cons_inv;obtain rfl:=hs.nil_inv;obtain⟨o,rfl,b1⟩:=h1.i64_inv;obtain⟨n,rfl,b2⟩:=h2.i64_inv;obtain⟨xs,rfl,hl,hx⟩:=h3.slice_inv
  obtain⟨l,rfl,aw⟩:=gF (enc:=cS) (P:=Tm.OK) fun x hh=>ih x (by
   have:=List.sizeOf_lt_of_mem hh;simp at hm;omega) (hx x hh)
  exact⟨.mk o n l,by rw[cS,GV],.mk o n l b1 b2 (by simpa using hl) aw⟩
theorem DTy.trms_inv {d:D}(h:DTy (.slice .trm) d):∃l:List Tm,d=.list (l.map cS)∧l.length≤maxLen∧∀t,t∈l→t.OK:=by
 obtain⟨xs,rfl,hl,hx⟩:=h.slice_inv;obtain⟨l,rfl,aw⟩:=gF (enc:=cS) (P:=Tm.OK) fun x hh=>DTy.trm_inv (hx x hh);exact⟨l,rfl,by simpa using hl,aw⟩
end Cx
namespace Cx
open Go
def LU (g:Nat)(zs:List Int):Nat→Option (Ty×D):=fun k=>bif Nat.beq k g then some (.agg (zs.map fun _=>.int .i64),.agg (zs.map fun z=>.v (.int .i64 z))) else none
theorem am9 {C:Ctx}{g:Nat}{zs:List Int}{name:String}{W:World}(hC:C.glob=LU g zs)(hg:C.P.globalNamed name=some g)(hz:zs.all (fun z=>decide (IntKind.i64.min≤z)&&decide (z≤IntKind.i64.max))=true)
 (h:Lib.TabIs C.P W name .i64 zs):CtxOK C (jY W):=by
 refine⟨fun k x hx=>?_⟩;rw[hC] at hx;unfold LU at hx;cases hk:Nat.beq k g<;>simp only[hk,cond_true,cond_false] at hx
 ·cases hx
 cases hx;obtain rfl:=Nat.eq_of_beq_eq_true hk
 have yn:Rep C.cap (jY W) (.agg (zs.map fun _=>.int .i64)) (.agg (zs.map fun z=>Value.int .i64 z).toArray) (.agg (zs.map fun z=>.v (.int .i64 z))):=by
  refine .agg _ _ _ (by simp) (by simp) (fun i t ht=>?_) (fun i t ht=>?_)
  ·rw[List.getElem?_map,Option.map_eq_some_iff] at ht;obtain⟨z,rA,rfl⟩:=ht;rw[List.getD_eq_getElem?_getD,List.getD_eq_getElem?_getD,List.getElem?_map,List.getElem?_map,rA];have:=List.all_eq_true.1 hz z (List.mem_of_getElem? rA);simp only[Bool.and_eq_true,decide_eq_true_eq] at this;exact .int _ _ this.1 this.2
  ·rw[List.getElem?_map,Option.map_eq_some_iff] at ht;obtain⟨z,_,rfl⟩:=ht;rfl
 refine .ref _ k 0 _ _ yn fun j u hu=>?_;simp only[Value.cells,List.getElem?_toArray,List.getElem?_map,Option.map_eq_some_iff] at hu;obtain⟨z,rA,rfl⟩:=hu;have ae:=(List.getElem?_eq_some_iff.1 rA).1;have:=h.cell hg j ae;show W.cell? ⟨k,0+j,none⟩=_;rw[Nat.zero_add,this,List.getD_eq_getElem?_getD,rA];rfl
end Cx
namespace Cx
open Go Go.RowKit
def loops:PC→List PC
 |.seq a b=>loops a++loops b
 |.ite _ _ _ a b=>loops a++loops b
 |.block id lr lo (.loop Jo Jj a)=>loops a++[.block id lr lo (.loop Jo Jj a)]
 |.block _ _ _ a=>loops a
 |.loop _ _ a=>loops a
 |.each e ps lo rt a=>loops a++[.each e ps lo rt a]
 |.meach J ps bT lo a=>loops a++[.meach J ps bT lo a]
 |_=>[]
def Gu:PC→PC
 |.block _ _ _ (.loop _ _ a)=>a
 |.each _ _ _ _ a=>a
 |.meach _ _ _ _ a=>a
 |_=>.skip
def CF (c:PC)(k:Nat):PC:=(loops c).getD k .skip
def rnd:PC→PT
 |.block id lr lo (.loop Jo Jj a)=>round id lr lo Jo Jj a
 |.each _ _ lo _ a=>oy lo a
 |.meach _ _ _ lo a=>oy lo a
 |_=>.next .id
inductive Shp where
 |lp (id:Nat) (bf be lr lo:List Nat)
 |ea (lo:List Nat)
 |no
def uV:PC→Shp
 |.block id bf be (.loop lr lo _)=>.lp id bf be lr lo
 |.each _ _ lo _ _=>.ea lo
 |.meach _ _ _ lo _=>.ea lo
 |_=>.no
def told (c:PC):PT×List (Shp×PT):=(tree c,(loops c).map fun l=>(uV l,rnd l))
theorem FB {o:Option PC}{t:PT}{l:List (Shp×PT)}(h:o.map told=some (t,l)):o=some (o.getD .skip)∧tree (o.getD .skip)=t∧∀k x,l[k]?=some x→(uV (CF (o.getD .skip) k),rnd (CF (o.getD .skip) k))=x:=by
 cases o with
 |none=>cases h
 |some c=>
  have h1:told c=(t,l):=by injection h
  unfold told at h1;injection h1 with h1 h2
  refine⟨rfl,h1,fun k x hx=>?_⟩;subst h2;simp only[List.getElem?_map,Option.map_eq_some_iff] at hx;obtain⟨y,hy,rfl⟩:=hx;have:CF ((some c:Option PC).getD .skip) k=y:=by
   show(loops c).getD k .skip=y;rw[List.getD_eq_getElem?_getD,hy];rfl
  rw[this]
theorem amj {c:PC}{id:Nat}{bf be lr lo:List Nat}{t:PT}(h:(uV c,rnd c)=(.lp id bf be lr lo,t)):round id bf be lr lo (Gu c)=t:=by
 injection h with h1 h2
 subst h2;unfold uV at h1;split at h1
 ·cases h1;rfl
 all_goals cases h1
theorem ab6 {c:PC}{lo:List Nat}{t:PT}(h:(uV c,rnd c)=(.ea lo,t)):oy lo (Gu c)=t:=by
 injection h with h1 h2
 subst h2;unfold uV at h1;split at h1
 ·cases h1
 ·cases h1;rfl
 ·cases h1;rfl
 ·cases h1
noncomputable def cm {α:Type}(x:α):α:=Classical.choose (⟨x,rfl⟩:∃y,y=x)
theorem xN {α:Type}(x:α):cm x=x:=Classical.choose_spec (⟨x,rfl⟩:∃y,y=x)
noncomputable def az (o:Option PC):Nat→PC:=fun k=>Gu (CF (o.getD .skip) k)
noncomputable abbrev aA (o:Option PC):PC:=cm (o.getD .skip)
noncomputable abbrev bL (o:Option PC):Nat→PC:=cm (az o)
section
variable {o:Option PC} {F:(Nat→PC)→PT×List (Shp×PT)}
theorem aE (h:o.map told=some (F (az o))):o=some (aA o):=by unfold aA;rw[xN];exact(FB (t:=(F (az o)).1) (l:=(F (az o)).2) h).1
theorem aP (h:o.map told=some (F (az o))):tree (aA o)=(F (bL o)).1:=by unfold aA bL;rw[xN,xN];exact(FB (t:=(F (az o)).1) (l:=(F (az o)).2) h).2.1
theorem bI (h:o.map told=some (F (az o)))(k:Nat){id:Nat}{bf be lr lo:List Nat}{t:(Nat→PC)→PT}(hk:∀b,(F b).2[k]?=some (.lp id bf be lr lo,t b)):round id bf be lr lo (bL o k)=t (bL o):=by
 unfold bL;rw[xN];exact amj ((FB (t:=(F (az o)).1) (l:=(F (az o)).2) h).2.2 k _ (hk _))
theorem Wh (h:o.map told=some (F (az o)))(k:Nat){lo:List Nat}{t:(Nat→PC)→PT}(hk:∀b,(F b).2[k]?=some (.ea lo,t b)):oy lo (bL o k)=t (bL o):=by
 unfold bL;rw[xN];exact ab6 ((FB (t:=(F (az o)).1) (l:=(F (az o)).2) h).2.2 k _ (hk _))
end
theorem aG {α:Type}{R:Nat→α→Prop}{f:Nat}{x:α}{l:List (Nat×α)}(h:R f x)(k:Ad R l):Ad R ((f,x)::l):=⟨h,k⟩
theorem aF {α:Type}:∀{l:List (Nat×α)},(l.map (·.1)).Nodup→∀{k f:Nat} {x:α},l[k]?=some (f,x)→ab l f=some x
 |[],_,k,f,x,h=>by simp at h
 |y::l,hn,0,f,x,h=>by
  simp only[List.getElem?_cons_zero,Option.some.injEq] at h;subst h;simp[ab]
 |y::l,hn,k+1,f,x,h=>by
  simp only[List.getElem?_cons_succ] at h;rw[List.map_cons,List.nodup_cons] at hn;have hm:f∈l.map (·.1):=List.mem_map.2 ⟨(f,x),List.mem_of_getElem? h,rfl⟩;have hb:Nat.beq y.1 f=false:=by
   cases e:Nat.beq y.1 f with
   |false=>rfl
   |true=>rw[cn e] at hn;exact absurd hm hn.1
  simp only[ab,hb,cond_false];exact aF hn.2 h
abbrev pT:PE:=.con (.bool true)
abbrev pF:PE:=.con (.bool false)
abbrev pN:PE:=.con .none
abbrev pL:PE:=.con (.list [])
abbrev pi (n:Int):PE:=.con (.int n)
abbrev aL (a b:PE):PE:=.ai .add .i64 a b
abbrev bS (a b:PE):PE:=.ai .sub .i64 a b
abbrev ao (a b:PE):PE:=.ci .eql a b
abbrev aT (a b:PE):PE:=.ci .neq a b
abbrev aj (a b:PE):PE:=.ci .lss a b
abbrev bO (a b:PE):PE:=.ci .leq a b
abbrev bm (a b:PE):PE:=.ci .gtr a b
abbrev aY (a b:PE):PE:=.ci .geq a b
abbrev pc (a:PE)(i:Nat):PE:=.cell a i
abbrev pn (a b:PE):PE:=.nth a b
abbrev aq (a b:PE):PE:=.idx a b
abbrev z2:PE:=.con (.agg [(.int 0),(.int 0)])
abbrev z3:PE:=.con (.agg [(.int 0),(.int 0),(.int 0)])
abbrev z4:PE:=.con (.agg [(.int 0),(.int 0),(.int 0),(.int 0)])
abbrev z5:PE:=.con (.agg [(.int 0),(.int 0),(.int 0),(.int 0),(.int 0)])
abbrev z6:PE:=.con (.agg [(.int 0),(.int 0),(.int 0),(.int 0),(.int 0),(.int 0)])
abbrev z9:PE:=.con (.agg [(.int 0),(.int 0),(.int 0),(.int 0),(.int 0),(.int 0),(.int 0),(.int 0),(.int 0)])
abbrev FN:PE:=.con (.agg [(.int 0),(.int 0),(.int 0),(.int 0),(.int 0),(.int 0),(.int 0),(.int 0),(.int 0),(.int 0),(.int 0),(.int 0),(.int 0),(.int 0),(.int 0)])
abbrev r0:PE:=.r 0
abbrev r1:PE:=.r 1
abbrev r2:PE:=.r 2
abbrev r3:PE:=.r 3
abbrev r4:PE:=.r 4
abbrev r5:PE:=.r 5
abbrev r6:PE:=.r 6
abbrev r7:PE:=.r 7
abbrev r8:PE:=.r 8
abbrev r9:PE:=.r 9
abbrev bY:PE:=.r 10
abbrev bl:PE:=.r 11
abbrev bZ:PE:=.r 12
abbrev bF:PE:=.r 13
abbrev bG:PE:=.r 14
abbrev cZ:PE:=.r 15
abbrev cg:PE:=.r 16
abbrev gm:PE:=.r 17
abbrev fA:PE:=.r 18
abbrev gJ:PE:=.r 19
abbrev fj:PE:=.r 20
abbrev lX:PE:=.r 21
abbrev Vc:PE:=.r 22
abbrev lY:PE:=.r 23
abbrev lZ:PE:=.r 24
abbrev fV:PE:=.r 25
abbrev kO:PE:=.r 26
abbrev dJ:PE:=.r 27
abbrev oq:PE:=.r 28
abbrev gn:PE:=.r 29
abbrev pW:PE:=.r 30
abbrev sk:PE:=.r 31
abbrev uI:PE:=.r 32
abbrev EZ:PE:=.r 33
abbrev r34:PE:=.r 34
abbrev pX:PE:=.r 35
abbrev mU:PE:=.r 36
abbrev jB:PE:=.r 37
abbrev fB:PE:=.r 38
abbrev kP:PE:=.r 39
abbrev mV:PE:=.r 40
abbrev iy:PE:=.r 41
abbrev E0:PE:=.r 42
abbrev gp:PE:=.r 43
abbrev y4:PE:=.r 44
abbrev mW:PE:=.r 45
abbrev y5:PE:=.r 46
abbrev y6:PE:=.r 47
abbrev mX:PE:=.r 48
abbrev mY:PE:=.r 49
abbrev gK:PE:=.r 50
abbrev eT:PE:=.r 51
abbrev ot:PE:=.r 52
abbrev Vd:PE:=.r 53
abbrev ou:PE:=.r 54
abbrev y7:PE:=.r 55
abbrev kQ:PE:=.r 56
abbrev E1:PE:=.r 57
abbrev Ve:PE:=.r 58
abbrev r59:PE:=.r 59
abbrev y8:PE:=.r 60
abbrev Vf:PE:=.r 61
abbrev j7:PE:=.r 62
abbrev Vg:PE:=.r 63
abbrev kR:PE:=.r 64
abbrev uJ:PE:=.r 65
abbrev Vh:PE:=.r 66
abbrev mZ:PE:=.r 67
abbrev KS:PE:=.r 68
abbrev uK:PE:=.r 69
abbrev Vi:PE:=.r 70
abbrev y9:PE:=.r 72
abbrev za:PE:=.r 73
abbrev E2:PE:=.r 74
abbrev Vj:PE:=.r 75
abbrev pY:PE:=.r 76
abbrev KT:PE:=.r 77
abbrev r78:PE:=.r 78
abbrev pZ:PE:=.r 80
abbrev p5:PE:=.r 81
abbrev gL:PE:=.r 82
abbrev Vk:PE:=.r 84
abbrev r85:PE:=.r 85
abbrev Vl:PE:=.r 87
abbrev KU:PE:=.r 88
abbrev KV:PE:=.r 89
abbrev E3:PE:=.r 90
abbrev Vm:PE:=.r 92
abbrev KW:PE:=.r 93
abbrev r94:PE:=.r 94
abbrev r95:PE:=.r 95
abbrev r96:PE:=.r 96
abbrev r98:PE:=.r 98
abbrev Vn:PE:=.r 99
abbrev U8:PE:=.r 103
abbrev alG:PE:=.r 104
abbrev alH:PE:=.r 106
abbrev KQ:PE:=.r 108
abbrev alI:PE:=.r 109
abbrev KR:PE:=.r 112
abbrev alJ:PE:=.r 121
abbrev alK:PE:=.r 127
abbrev o0:PE:=.o 0
abbrev o1:PE:=.o 1
abbrev o2:PE:=.o 2
abbrev o3:PE:=.o 3
abbrev o4:PE:=.o 4
abbrev o5:PE:=.o 5
abbrev o6:PE:=.o 6
abbrev o7:PE:=.o 7
abbrev o8:PE:=.o 8
abbrev o9:PE:=.o 9
abbrev cw:PE:=.o 10
abbrev pG:PE:=.o 11
abbrev rO:PE:=.o 13
abbrev rP:PE:=.o 14
abbrev tZ:PE:=.o 15
abbrev o16:PE:=.o 16
abbrev CR:PE:=.o 45
end Cx
namespace Rm
open Go Cx
abbrev str (b:ByteArray):D:=.v (.string b)
def strs (l:List ByteArray):D:=.list (l.map str)
@[simp] theorem avw (l:List ByteArray):(strs l).l=l.map str:=_root_.id rfl
theorem str_inv {d:D}(h:DTy .str d):∃b,d=str b:=by
 cases h with
 |str b=>exact⟨b,rfl⟩
 |other t d h=>exact h.elim
theorem am6 {d:D}(h:DTy (.slice .str) d):∃l:List ByteArray,d=strs l∧l.length≤maxLen:=by
 obtain⟨xs,rfl,hm,hx⟩:=h.slice_inv;obtain⟨l,rfl,hl⟩:=gF (enc:=str) (P:=fun _=>True) fun x hh=>(str_inv (hx x hh)).imp fun b hb=>⟨hb,trivial⟩
 exact⟨l,rfl,by simpa using hm⟩
@[simp] theorem arl (t:Tm):(cS t).cells=[.int t.op,.int t.n,.list (t.args.map cS)]:=by rw[wY];rfl
@[simp] theorem arn (t:Tm):D.agg [.int t.op,.int t.n,.list (t.args.map cS)]=cS t:=(wY t).symm
@[simp] theorem ari (t:Tm):(cS t).c 0=.int t.op:=by rw[wY];rfl
@[simp] theorem arj (t:Tm):(cS t).c 1=.int t.n:=by rw[wY];rfl
@[simp] theorem ark (t:Tm):(cS t).c 2=.list (t.args.map cS):=by rw[wY];rfl
structure City where
 name:ByteArray
 order:Int
 currency:Int
 rest:List Int
 feasts:List Int
 shut:List Int
 deriving Inhabited
def jO (x:City):D:=.agg [str x.name,.int x.order,.int x.currency,ints x.rest,ints x.feasts,ints x.shut]
@[simp] theorem aqg (x:City):(jO x).cells=[str x.name,.int x.order,.int x.currency,ints x.rest,ints x.feasts,ints x.shut]:=_root_.id rfl
@[simp] theorem auu (x:City):D.agg [str x.name,.int x.order,.int x.currency,ints x.rest,ints x.feasts,ints x.shut]=jO x:=_root_.id rfl
@[simp] theorem aqa (x:City):(jO x).c 0=str x.name:=_root_.id rfl
@[simp] theorem aqb (x:City):(jO x).c 1=.int x.order:=_root_.id rfl
@[simp] theorem aqc (x:City):(jO x).c 2=.int x.currency:=_root_.id rfl
@[simp] theorem aqd (x:City):(jO x).c 3=ints x.rest:=_root_.id rfl
@[simp] theorem aqe (x:City):(jO x).c 4=ints x.feasts:=_root_.id rfl
@[simp] theorem aqf (x:City):(jO x).c 5=ints x.shut:=_root_.id rfl
def sM (l:List City):D:=.list (l.map jO)
@[simp] theorem ar4 (l:List City):(sM l).l=l.map jO:=_root_.id rfl
abbrev Nn:Ty:=.agg [.str,.int .i64,.int .i64,.slice (.int .i64),.slice (.int .i64),.slice (.int .i64)]
def City.OK (x:City):Prop:=aR x.order∧aR x.currency∧(x.rest.length≤maxLen∧∀y,y∈x.rest→aR y)∧(x.feasts.length≤maxLen∧∀y,y∈x.feasts→aR y)∧(x.shut.length≤maxLen∧∀y,y∈x.shut→aR y)
theorem aba {d:D}(h:DTy Nn d):∃x:City,d=jO x∧x.OK:=by
 obtain⟨ds,rfl,hs⟩:=h.agg_inv;obtain⟨d0,ds,rfl,h0,hs⟩:=hs.cons_inv;obtain⟨d1,ds,rfl,h1,hs⟩:=hs.cons_inv;obtain⟨d2,ds,rfl,h2,hs⟩:=hs.cons_inv;obtain⟨d3,ds,rfl,h3,hs⟩:=hs.cons_inv;obtain⟨d4,ds,rfl,h4,hs⟩:=hs.cons_inv;obtain⟨d5,ds,rfl,h5,hs⟩:=hs.cons_inv;obtain rfl:=hs.nil_inv;obtain⟨n0,rfl⟩:=str_inv h0;obtain⟨n1,rfl,b1⟩:=h1.i64_inv;obtain⟨n2,rfl,b2⟩:=h2.i64_inv;obtain⟨n3,rfl,b3,c3⟩:=h3.ints_inv;obtain⟨n4,rfl,b4,c4⟩:=h4.ints_inv;obtain⟨n5,rfl,b5,c5⟩:=h5.ints_inv;exact⟨⟨n0,n1,n2,n3,n4,n5⟩,rfl,⟨b1,b2,⟨b3,c3⟩,⟨b4,c4⟩,⟨b5,c5⟩⟩⟩
theorem abb {d:D}(h:DTy (.slice Nn) d):∃l:List City,d=sM l∧l.length≤maxLen∧∀y,y∈l→City.OK y:=by
 obtain⟨xs,rfl,hm,hx⟩:=h.slice_inv;obtain⟨l,rfl,hl⟩:=gF (enc:=jO) (P:=City.OK) fun x hh=>aba (hx x hh);exact⟨l,rfl,by simpa using hm,hl⟩
structure Firm where
 name:ByteArray
 city:Int
 group:Int
 deriving Inhabited
def nr (x:Firm):D:=.agg [str x.name,.int x.city,.int x.group]
@[simp] theorem aqz (x:Firm):(nr x).cells=[str x.name,.int x.city,.int x.group]:=_root_.id rfl
@[simp] theorem auz (x:Firm):D.agg [str x.name,.int x.city,.int x.group]=nr x:=_root_.id rfl
@[simp] theorem aqw (x:Firm):(nr x).c 0=str x.name:=_root_.id rfl
@[simp] theorem aqx (x:Firm):(nr x).c 1=.int x.city:=_root_.id rfl
@[simp] theorem aqy (x:Firm):(nr x).c 2=.int x.group:=_root_.id rfl
def firms (l:List Firm):D:=.list (l.map nr)
@[simp] theorem ate (l:List Firm):(firms l).l=l.map nr:=_root_.id rfl
abbrev Np:Ty:=.agg [.str,.int .i64,.int .i64]
def Firm.OK (x:Firm):Prop:=aR x.city∧aR x.group
theorem acI {d:D}(h:DTy Np d):∃x:Firm,d=nr x∧x.OK:=by
 obtain⟨ds,rfl,hs⟩:=h.agg_inv;obtain⟨d0,ds,rfl,h0,hs⟩:=hs.cons_inv;obtain⟨d1,ds,rfl,h1,hs⟩:=hs.cons_inv;obtain⟨d2,ds,rfl,h2,hs⟩:=hs.cons_inv;obtain rfl:=hs.nil_inv;obtain⟨n0,rfl⟩:=str_inv h0;obtain⟨n1,rfl,b1⟩:=h1.i64_inv;obtain⟨n2,rfl,b2⟩:=h2.i64_inv;exact⟨⟨n0,n1,n2⟩,rfl,⟨b1,b2⟩⟩
theorem acJ {d:D}(h:DTy (.slice Np) d):∃l:List Firm,d=firms l∧l.length≤maxLen∧∀y,y∈l→Firm.OK y:=by
 obtain⟨xs,rfl,hm,hx⟩:=h.slice_inv;obtain⟨l,rfl,hl⟩:=gF (enc:=nr) (P:=Firm.OK) fun x hh=>acI (hx x hh);exact⟨l,rfl,by simpa using hm,hl⟩
structure Group where
 grade:Int
 deriving DecidableEq,Inhabited
def qK (x:Group):D:=.agg [.int x.grade]
@[simp] theorem aqB (x:Group):(qK x).cells=[.int x.grade]:=_root_.id rfl
@[simp] theorem auA (x:Group):D.agg [.int x.grade]=qK x:=_root_.id rfl
@[simp] theorem aqA (x:Group):(qK x).c 0=.int x.grade:=_root_.id rfl
def groups (l:List Group):D:=.list (l.map qK)
@[simp] theorem atm (l:List Group):(groups l).l=l.map qK:=_root_.id rfl
abbrev Nq:Ty:=.agg [.int .i64]
def Group.OK (x:Group):Prop:=aR x.grade
theorem aeL {d:D}(h:DTy Nq d):∃x:Group,d=qK x∧x.OK:=by
 obtain⟨ds,rfl,hs⟩:=h.agg_inv;obtain⟨d0,ds,rfl,h0,hs⟩:=hs.cons_inv;obtain rfl:=hs.nil_inv;obtain⟨n0,rfl,b0⟩:=h0.i64_inv;exact⟨⟨n0⟩,rfl,b0⟩
theorem aeM {d:D}(h:DTy (.slice Nq) d):∃l:List Group,d=groups l∧l.length≤maxLen∧∀y,y∈l→Group.OK y:=by
 obtain⟨xs,rfl,hm,hx⟩:=h.slice_inv;obtain⟨l,rfl,hl⟩:=gF (enc:=qK) (P:=Group.OK) fun x hh=>aeL (hx x hh);exact⟨l,rfl,by simpa using hm,hl⟩
structure Usance where
 fr:Int
 to:Int
 days:Int
 deriving DecidableEq,Inhabited
def nv (x:Usance):D:=.agg [.int x.fr,.int x.to,.int x.days]
@[simp] theorem arw (x:Usance):(nv x).cells=[.int x.fr,.int x.to,.int x.days]:=_root_.id rfl
@[simp] theorem auJ (x:Usance):D.agg [.int x.fr,.int x.to,.int x.days]=nv x:=_root_.id rfl
@[simp] theorem art (x:Usance):(nv x).c 0=.int x.fr:=_root_.id rfl
@[simp] theorem aru (x:Usance):(nv x).c 1=.int x.to:=_root_.id rfl
@[simp] theorem arv (x:Usance):(nv x).c 2=.int x.days:=_root_.id rfl
def usances (l:List Usance):D:=.list (l.map nv)
@[simp] theorem avz (l:List Usance):(usances l).l=l.map nv:=_root_.id rfl
abbrev Nw:Ty:=.agg [.int .i64,.int .i64,.int .i64]
def Usance.OK (x:Usance):Prop:=aR x.fr∧aR x.to∧aR x.days
theorem ao9 {d:D}(h:DTy Nw d):∃x:Usance,d=nv x∧x.OK:=by
 obtain⟨ds,rfl,hs⟩:=h.agg_inv;obtain⟨d0,ds,rfl,h0,hs⟩:=hs.cons_inv;obtain⟨d1,ds,rfl,h1,hs⟩:=hs.cons_inv;obtain⟨d2,ds,rfl,h2,hs⟩:=hs.cons_inv;obtain rfl:=hs.nil_inv;obtain⟨n0,rfl,b0⟩:=h0.i64_inv;obtain⟨n1,rfl,b1⟩:=h1.i64_inv;obtain⟨n2,rfl,b2⟩:=h2.i64_inv;exact⟨⟨n0,n1,n2⟩,rfl,⟨b0,b1,b2⟩⟩
theorem apa {d:D}(h:DTy (.slice Nw) d):∃l:List Usance,d=usances l∧l.length≤maxLen∧∀y,y∈l→Usance.OK y:=by
 obtain⟨xs,rfl,hm,hx⟩:=h.slice_inv;obtain⟨l,rfl,hl⟩:=gF (enc:=nv) (P:=Usance.OK) fun x hh=>ao9 (hx x hh);exact⟨l,rfl,by simpa using hm,hl⟩
structure Rate where
 fr:Int
 to:Int
 num:Int
 den:Int
 since:Int
 deriving DecidableEq,Inhabited
def lq (x:Rate):D:=.agg [.int x.fr,.int x.to,.int x.num,.int x.den,.int x.since]
@[simp] theorem aqQ (x:Rate):(lq x).cells=[.int x.fr,.int x.to,.int x.num,.int x.den,.int x.since]:=_root_.id rfl
@[simp] theorem auD (x:Rate):D.agg [.int x.fr,.int x.to,.int x.num,.int x.den,.int x.since]=lq x:=_root_.id rfl
@[simp] theorem aqL (x:Rate):(lq x).c 0=.int x.fr:=_root_.id rfl
@[simp] theorem aqM (x:Rate):(lq x).c 1=.int x.to:=_root_.id rfl
@[simp] theorem aqN (x:Rate):(lq x).c 2=.int x.num:=_root_.id rfl
@[simp] theorem aqO (x:Rate):(lq x).c 3=.int x.den:=_root_.id rfl
@[simp] theorem aqP (x:Rate):(lq x).c 4=.int x.since:=_root_.id rfl
def rates (l:List Rate):D:=.list (l.map lq)
@[simp] theorem auZ (l:List Rate):(rates l).l=l.map lq:=_root_.id rfl
abbrev Nt:Ty:=.agg [.int .i64,.int .i64,.int .i64,.int .i64,.int .i64]
def Rate.OK (x:Rate):Prop:=aR x.fr∧aR x.to∧aR x.num∧aR x.den∧aR x.since
theorem alX {d:D}(h:DTy Nt d):∃x:Rate,d=lq x∧x.OK:=by
 obtain⟨ds,rfl,hs⟩:=h.agg_inv;obtain⟨d0,ds,rfl,h0,hs⟩:=hs.cons_inv;obtain⟨d1,ds,rfl,h1,hs⟩:=hs.cons_inv;obtain⟨d2,ds,rfl,h2,hs⟩:=hs.cons_inv;obtain⟨d3,ds,rfl,h3,hs⟩:=hs.cons_inv;obtain⟨d4,ds,rfl,h4,hs⟩:=hs.cons_inv;obtain rfl:=hs.nil_inv;obtain⟨n0,rfl,b0⟩:=h0.i64_inv;obtain⟨n1,rfl,b1⟩:=h1.i64_inv;obtain⟨n2,rfl,b2⟩:=h2.i64_inv;obtain⟨n3,rfl,b3⟩:=h3.i64_inv;obtain⟨n4,rfl,b4⟩:=h4.i64_inv;exact⟨⟨n0,n1,n2,n3,n4⟩,rfl,⟨b0,b1,b2,b3,b4⟩⟩
theorem alY {d:D}(h:DTy (.slice Nt) d):∃l:List Rate,d=rates l∧l.length≤maxLen∧∀y,y∈l→Rate.OK y:=by
 obtain⟨xs,rfl,hm,hx⟩:=h.slice_inv;obtain⟨l,rfl,hl⟩:=gF (enc:=lq) (P:=Rate.OK) fun x hh=>alX (hx x hh);exact⟨l,rfl,by simpa using hm,hl⟩
structure Halt where
 order:Int
 fr:Int
 to:Int
 deriving DecidableEq,Inhabited
def ns (x:Halt):D:=.agg [.int x.order,.int x.fr,.int x.to]
@[simp] theorem aqF (x:Halt):(ns x).cells=[.int x.order,.int x.fr,.int x.to]:=_root_.id rfl
@[simp] theorem auB (x:Halt):D.agg [.int x.order,.int x.fr,.int x.to]=ns x:=_root_.id rfl
@[simp] theorem aqC (x:Halt):(ns x).c 0=.int x.order:=_root_.id rfl
@[simp] theorem aqD (x:Halt):(ns x).c 1=.int x.fr:=_root_.id rfl
@[simp] theorem aqE (x:Halt):(ns x).c 2=.int x.to:=_root_.id rfl
def halts (l:List Halt):D:=.list (l.map ns)
@[simp] theorem atu (l:List Halt):(halts l).l=l.map ns:=_root_.id rfl
abbrev Nr:Ty:=.agg [.int .i64,.int .i64,.int .i64]
def Halt.OK (x:Halt):Prop:=aR x.order∧aR x.fr∧aR x.to
theorem afe {d:D}(h:DTy Nr d):∃x:Halt,d=ns x∧x.OK:=by
 obtain⟨ds,rfl,hs⟩:=h.agg_inv;obtain⟨d0,ds,rfl,h0,hs⟩:=hs.cons_inv;obtain⟨d1,ds,rfl,h1,hs⟩:=hs.cons_inv;obtain⟨d2,ds,rfl,h2,hs⟩:=hs.cons_inv;obtain rfl:=hs.nil_inv;obtain⟨n0,rfl,b0⟩:=h0.i64_inv;obtain⟨n1,rfl,b1⟩:=h1.i64_inv;obtain⟨n2,rfl,b2⟩:=h2.i64_inv;exact⟨⟨n0,n1,n2⟩,rfl,⟨b0,b1,b2⟩⟩
theorem aff {d:D}(h:DTy (.slice Nr) d):∃l:List Halt,d=halts l∧l.length≤maxLen∧∀y,y∈l→Halt.OK y:=by
 obtain⟨xs,rfl,hm,hx⟩:=h.slice_inv;obtain⟨l,rfl,hl⟩:=gF (enc:=ns) (P:=Halt.OK) fun x hh=>afe (hx x hh);exact⟨l,rfl,by simpa using hm,hl⟩
structure Choice where
 ask:Int
 by_:Int
 whole:Bool
 deriving DecidableEq,Inhabited
def oL (x:Choice):D:=.agg [.int x.ask,.int x.by_,.bool x.whole]
@[simp] theorem ap9 (x:Choice):(oL x).cells=[.int x.ask,.int x.by_,.bool x.whole]:=_root_.id rfl
@[simp] theorem aut (x:Choice):D.agg [.int x.ask,.int x.by_,.bool x.whole]=oL x:=_root_.id rfl
@[simp] theorem ap7 (x:Choice):(oL x).c 0=.int x.ask:=_root_.id rfl
@[simp] theorem ap8 (x:Choice):(oL x).c 1=.int x.by_:=_root_.id rfl
def choices (l:List Choice):D:=.list (l.map oL)
@[simp] theorem ar3 (l:List Choice):(choices l).l=l.map oL:=_root_.id rfl
abbrev Nm:Ty:=.agg [.int .i64,.int .i64,.bool]
def Choice.OK (x:Choice):Prop:=aR x.ask∧aR x.by_
theorem aa8 {d:D}(h:DTy Nm d):∃x:Choice,d=oL x∧x.OK:=by
 obtain⟨ds,rfl,hs⟩:=h.agg_inv;obtain⟨d0,ds,rfl,h0,hs⟩:=hs.cons_inv;obtain⟨d1,ds,rfl,h1,hs⟩:=hs.cons_inv;obtain⟨d2,ds,rfl,h2,hs⟩:=hs.cons_inv;obtain rfl:=hs.nil_inv;obtain⟨n0,rfl,b0⟩:=h0.i64_inv;obtain⟨n1,rfl,b1⟩:=h1.i64_inv;obtain⟨n2,rfl⟩:=h2.bool_inv;exact⟨⟨n0,n1,n2⟩,rfl,⟨b0,b1⟩⟩
theorem aa9 {d:D}(h:DTy (.slice Nm) d):∃l:List Choice,d=choices l∧l.length≤maxLen∧∀y,y∈l→Choice.OK y:=by
 obtain⟨xs,rfl,hm,hx⟩:=h.slice_inv;obtain⟨l,rfl,hl⟩:=gF (enc:=oL) (P:=Choice.OK) fun x hh=>aa8 (hx x hh);exact⟨l,rfl,by simpa using hm,hl⟩
structure Rule where
 ask:Int
 term:Tm
 deriving Inhabited
def nu (x:Rule):D:=.agg [.int x.ask,.int x.term.op,.int x.term.n,.list (x.term.args.map cS)]
@[simp] theorem aq1 (x:Rule):(nu x).cells=[.int x.ask,.int x.term.op,.int x.term.n,.list (x.term.args.map cS)]:=_root_.id rfl
@[simp] theorem auF (x:Rule):D.agg [.int x.ask,.int x.term.op,.int x.term.n,.list (x.term.args.map cS)]=nu x:=_root_.id rfl
@[simp] theorem aq0 (x:Rule):(nu x).c 0=.int x.ask:=_root_.id rfl
def rules (l:List Rule):D:=.list (l.map nu)
@[simp] theorem au4 (l:List Rule):(rules l).l=l.map nu:=_root_.id rfl
abbrev Nu:Ty:=.agg [.int .i64,.int .i64,.int .i64,.slice .trm]
def Rule.OK (x:Rule):Prop:=aR x.ask∧Tm.OK x.term
theorem amL {d:D}(h:DTy Nu d):∃x:Rule,d=nu x∧x.OK:=by
 obtain⟨ds,rfl,hs⟩:=h.agg_inv;obtain⟨d0,ds,rfl,h0,hs⟩:=hs.cons_inv;obtain⟨d1,ds,rfl,h1,hs⟩:=hs.cons_inv;obtain⟨d2,ds,rfl,h2,hs⟩:=hs.cons_inv;obtain⟨d3,ds,rfl,h3,hs⟩:=hs.cons_inv;obtain rfl:=hs.nil_inv;obtain⟨n0,rfl,b0⟩:=h0.i64_inv;obtain⟨n1,rfl,b1⟩:=h1.i64_inv;obtain⟨n2,rfl,b2⟩:=h2.i64_inv;obtain⟨n3,rfl,b3,c3⟩:=h3.trms_inv;exact⟨⟨n0,.mk n1 n2 n3⟩,rfl,⟨b0,.mk _ _ _ b1 b2 b3 c3⟩⟩
theorem amM {d:D}(h:DTy (.slice Nu) d):∃l:List Rule,d=rules l∧l.length≤maxLen∧∀y,y∈l→Rule.OK y:=by
 obtain⟨xs,rfl,hm,hx⟩:=h.slice_inv;obtain⟨l,rfl,hl⟩:=gF (enc:=nu) (P:=Rule.OK) fun x hh=>amL (hx x hh);exact⟨l,rfl,by simpa using hm,hl⟩
structure Order where
 name:ByteArray
 accepts:Bool
 choices:List Choice
 rules:List Rule
 deriving Inhabited
def gQ (x:Order):D:=.agg [str x.name,.bool x.accepts,choices x.choices,rules x.rules]
@[simp] theorem aqK (x:Order):(gQ x).cells=[str x.name,.bool x.accepts,choices x.choices,rules x.rules]:=_root_.id rfl
@[simp] theorem auC (x:Order):D.agg [str x.name,.bool x.accepts,choices x.choices,rules x.rules]=gQ x:=_root_.id rfl
@[simp] theorem arG (x:Order):jc 4 (gQ x)=gQ x:=_root_.id rfl
@[simp] theorem aqG (x:Order):(gQ x).c 0=str x.name:=_root_.id rfl
@[simp] theorem aqH (x:Order):(gQ x).c 1=.bool x.accepts:=_root_.id rfl
@[simp] theorem aqI (x:Order):(gQ x).c 2=choices x.choices:=_root_.id rfl
@[simp] theorem aqJ (x:Order):(gQ x).c 3=rules x.rules:=_root_.id rfl
def orders (l:List Order):D:=.list (l.map gQ)
@[simp] theorem auP (l:List Order):(orders l).l=l.map gQ:=_root_.id rfl
abbrev Ns:Ty:=.agg [.str,.bool,.slice Nm,.slice Nu]
def Order.OK (x:Order):Prop:=(x.choices.length≤maxLen∧∀y,y∈x.choices→Choice.OK y)∧(x.rules.length≤maxLen∧∀y,y∈x.rules→Rule.OK y)
theorem alb {d:D}(h:DTy Ns d):∃x:Order,d=gQ x∧x.OK:=by
 obtain⟨ds,rfl,hs⟩:=h.agg_inv;obtain⟨d0,ds,rfl,h0,hs⟩:=hs.cons_inv;obtain⟨d1,ds,rfl,h1,hs⟩:=hs.cons_inv;obtain⟨d2,ds,rfl,h2,hs⟩:=hs.cons_inv;obtain⟨d3,ds,rfl,h3,hs⟩:=hs.cons_inv;obtain rfl:=hs.nil_inv;obtain⟨n0,rfl⟩:=str_inv h0;obtain⟨n1,rfl⟩:=h1.bool_inv;obtain⟨n2,rfl,b2,c2⟩:=aa9 h2;obtain⟨n3,rfl,b3,c3⟩:=amM h3;exact⟨⟨n0,n1,n2,n3⟩,rfl,⟨⟨b2,c2⟩,⟨b3,c3⟩⟩⟩
theorem alc {d:D}(h:DTy (.slice Ns) d):∃l:List Order,d=orders l∧l.length≤maxLen∧∀y,y∈l→Order.OK y:=by
 obtain⟨xs,rfl,hm,hx⟩:=h.slice_inv;obtain⟨l,rfl,hl⟩:=gF (enc:=gQ) (P:=Order.OK) fun x hh=>alb (hx x hh);exact⟨l,rfl,by simpa using hm,hl⟩
structure Realm where
 currencies:List ByteArray
 cities:List City
 groups:List Group
 firms:List Firm
 orders:List Order
 usances:List Usance
 rates:List Rate
 halts:List Halt
 deriving Inhabited
def bH (x:Realm):D:=.agg [strs x.currencies,sM x.cities,groups x.groups,firms x.firms,orders x.orders,usances x.usances,rates x.rates,halts x.halts]
@[simp] theorem aqZ (x:Realm):(bH x).cells=[strs x.currencies,sM x.cities,groups x.groups,firms x.firms,orders x.orders,usances x.usances,rates x.rates,halts x.halts]:=_root_.id rfl
@[simp] theorem auE (x:Realm):D.agg [strs x.currencies,sM x.cities,groups x.groups,firms x.firms,orders x.orders,usances x.usances,rates x.rates,halts x.halts]=bH x:=_root_.id rfl
@[simp] theorem arH (x:Realm):jc 8 (bH x)=bH x:=_root_.id rfl
@[simp] theorem aqR (x:Realm):(bH x).c 0=strs x.currencies:=_root_.id rfl
@[simp] theorem aqS (x:Realm):(bH x).c 1=sM x.cities:=_root_.id rfl
@[simp] theorem aqT (x:Realm):(bH x).c 2=groups x.groups:=_root_.id rfl
@[simp] theorem aqU (x:Realm):(bH x).c 3=firms x.firms:=_root_.id rfl
@[simp] theorem aqV (x:Realm):(bH x).c 4=orders x.orders:=_root_.id rfl
@[simp] theorem aqW (x:Realm):(bH x).c 5=usances x.usances:=_root_.id rfl
@[simp] theorem aqX (x:Realm):(bH x).c 6=rates x.rates:=_root_.id rfl
@[simp] theorem aqY (x:Realm):(bH x).c 7=halts x.halts:=_root_.id rfl
abbrev ao2:Ty:=.agg [.slice .str,.slice Nn,.slice Nq,.slice Np,.slice Ns,.slice Nw,.slice Nt,.slice Nr]
def Realm.OK (x:Realm):Prop:=x.currencies.length≤maxLen∧(x.cities.length≤maxLen∧∀y,y∈x.cities→City.OK y)∧(x.groups.length≤maxLen∧∀y,y∈x.groups→Group.OK y)∧(x.firms.length≤maxLen∧∀y,y∈x.firms→Firm.OK y)∧(x.orders.length≤maxLen∧∀y,y∈x.orders→Order.OK y)∧(x.usances.length≤maxLen∧∀y,y∈x.usances→Usance.OK y)∧(x.rates.length≤maxLen∧∀y,y∈x.rates→Rate.OK y)∧(x.halts.length≤maxLen∧∀y,y∈x.halts→Halt.OK y)
theorem amo {d:D}(h:DTy ao2 d):∃x:Realm,d=bH x∧x.OK:=by
 obtain⟨ds,rfl,hs⟩:=h.agg_inv;obtain⟨d0,ds,rfl,h0,hs⟩:=hs.cons_inv;obtain⟨d1,ds,rfl,h1,hs⟩:=hs.cons_inv;obtain⟨d2,ds,rfl,h2,hs⟩:=hs.cons_inv;obtain⟨d3,ds,rfl,h3,hs⟩:=hs.cons_inv;obtain⟨d4,ds,rfl,h4,hs⟩:=hs.cons_inv;obtain⟨d5,ds,rfl,h5,hs⟩:=hs.cons_inv;obtain⟨d6,ds,rfl,h6,hs⟩:=hs.cons_inv;obtain⟨d7,ds,rfl,h7,hs⟩:=hs.cons_inv;obtain rfl:=hs.nil_inv;obtain⟨n0,rfl,b0⟩:=am6 h0;obtain⟨n1,rfl,b1,c1⟩:=abb h1;obtain⟨n2,rfl,b2,c2⟩:=aeM h2;obtain⟨n3,rfl,b3,c3⟩:=acJ h3;obtain⟨n4,rfl,b4,c4⟩:=alc h4;obtain⟨n5,rfl,b5,c5⟩:=apa h5;obtain⟨n6,rfl,b6,c6⟩:=alY h6;obtain⟨n7,rfl,b7,c7⟩:=aff h7;exact⟨⟨n0,n1,n2,n3,n4,n5,n6,n7⟩,rfl,⟨b0,⟨b1,c1⟩,⟨b2,c2⟩,⟨b3,c3⟩,⟨b4,c4⟩,⟨b5,c5⟩,⟨b6,c6⟩,⟨b7,c7⟩⟩⟩
structure Tenor where
 kind:Int
 n:Int
 unit:Int
 deriving DecidableEq,Inhabited
def wZ (x:Tenor):D:=.agg [.int x.kind,.int x.n,.int x.unit]
@[simp] theorem ars (x:Tenor):(wZ x).cells=[.int x.kind,.int x.n,.int x.unit]:=_root_.id rfl
@[simp] theorem auI (x:Tenor):D.agg [.int x.kind,.int x.n,.int x.unit]=wZ x:=_root_.id rfl
@[simp] theorem aro (x:Tenor):(wZ x).c 0=.int x.kind:=_root_.id rfl
@[simp] theorem arp (x:Tenor):(wZ x).c 1=.int x.n:=_root_.id rfl
@[simp] theorem arq (x:Tenor):(wZ x).c 2=.int x.unit:=_root_.id rfl
def Tenor.OK (x:Tenor):Prop:=aR x.kind∧aR x.n∧aR x.unit
structure Bill where
 drawer:Int
 drawee:Int
 payee:Int
 sum:Int
 currency:Int
 tenor:Tenor
 day:Int
 city:Int
 pay:Int
 need:Int
 rate:Int
 flags:Int
 parts:Int
 deriving DecidableEq,Inhabited
def ed (x:Bill):D:=.agg [.int x.drawer,.int x.drawee,.int x.payee,.int x.sum,.int x.currency,.int x.tenor.kind,.int x.tenor.n,.int x.tenor.unit,.int x.day,.int x.city,.int x.pay,.int x.need,.int x.rate,.int x.flags,.int x.parts]
@[simp] theorem apU (x:Bill):(ed x).cells=[.int x.drawer,.int x.drawee,.int x.payee,.int x.sum,.int x.currency,.int x.tenor.kind,.int x.tenor.n,.int x.tenor.unit,.int x.day,.int x.city,.int x.pay,.int x.need,.int x.rate,.int x.flags,.int x.parts]:=_root_.id rfl
@[simp] theorem auq (x:Bill):D.agg [.int x.drawer,.int x.drawee,.int x.payee,.int x.sum,.int x.currency,.int x.tenor.kind,.int x.tenor.n,.int x.tenor.unit,.int x.day,.int x.city,.int x.pay,.int x.need,.int x.rate,.int x.flags,.int x.parts]=ed x:=_root_.id rfl
@[simp] theorem arE (x:Bill):jc 15 (ed x)=ed x:=_root_.id rfl
@[simp] theorem auQ (x:Bill)(a0 a1 a2 a3 a4 a5 a6 a7 a8 a9 qx qy qz qA qB:D):D.agg (dL [a0,a1,a2,a3,a4,a5,a6,a7,a8,a9,qx,qy,qz,qA,qB] 0 [.int x.drawer,.int x.drawee,.int x.payee,.int x.sum,.int x.currency,.int x.tenor.kind,.int x.tenor.n,.int x.tenor.unit,.int x.day,.int x.city,.int x.pay,.int x.need,.int x.rate,.int x.flags,.int x.parts])=ed x:=_root_.id rfl
@[simp] theorem apF (x:Bill):(ed x).c 0=.int x.drawer:=_root_.id rfl
@[simp] theorem apG (x:Bill):(ed x).c 1=.int x.drawee:=_root_.id rfl
@[simp] theorem apM (x:Bill):(ed x).c 2=.int x.payee:=_root_.id rfl
@[simp] theorem apN (x:Bill):(ed x).c 3=.int x.sum:=_root_.id rfl
@[simp] theorem apO (x:Bill):(ed x).c 4=.int x.currency:=_root_.id rfl
@[simp] theorem apP (x:Bill):(ed x).c 5=.int x.tenor.kind:=_root_.id rfl
@[simp] theorem apQ (x:Bill):(ed x).c 6=.int x.tenor.n:=_root_.id rfl
@[simp] theorem apR (x:Bill):(ed x).c 7=.int x.tenor.unit:=_root_.id rfl
@[simp] theorem apS (x:Bill):(ed x).c 8=.int x.day:=_root_.id rfl
@[simp] theorem apT (x:Bill):(ed x).c 9=.int x.city:=_root_.id rfl
@[simp] theorem apH (x:Bill):(ed x).c 10=.int x.pay:=_root_.id rfl
@[simp] theorem apI (x:Bill):(ed x).c 11=.int x.need:=_root_.id rfl
@[simp] theorem apJ (x:Bill):(ed x).c 12=.int x.rate:=_root_.id rfl
@[simp] theorem apK (x:Bill):(ed x).c 13=.int x.flags:=_root_.id rfl
@[simp] theorem apL (x:Bill):(ed x).c 14=.int x.parts:=_root_.id rfl
def Bill.OK (x:Bill):Prop:=aR x.drawer∧aR x.drawee∧aR x.payee∧aR x.sum∧aR x.currency∧Tenor.OK x.tenor∧aR x.day∧aR x.city∧aR x.pay∧aR x.need∧aR x.rate∧aR x.flags∧aR x.parts
structure Sign where
 kind:Int
 part:Int
 who:Int
 for_:Int
 to:Int
 sum:Int
 day:Int
 city:Int
 flags:Int
 deriving DecidableEq,Inhabited
def gw (x:Sign):D:=.agg [.int x.kind,.int x.part,.int x.who,.int x.for_,.int x.to,.int x.sum,.int x.day,.int x.city,.int x.flags]
@[simp] theorem arh (x:Sign):(gw x).cells=[.int x.kind,.int x.part,.int x.who,.int x.for_,.int x.to,.int x.sum,.int x.day,.int x.city,.int x.flags]:=_root_.id rfl
@[simp] theorem auH (x:Sign):D.agg [.int x.kind,.int x.part,.int x.who,.int x.for_,.int x.to,.int x.sum,.int x.day,.int x.city,.int x.flags]=gw x:=_root_.id rfl
@[simp] theorem arJ (x:Sign):jc 9 (gw x)=gw x:=_root_.id rfl
@[simp] theorem aq6 (x:Sign):(gw x).c 0=.int x.kind:=_root_.id rfl
@[simp] theorem aq7 (x:Sign):(gw x).c 1=.int x.part:=_root_.id rfl
@[simp] theorem aq8 (x:Sign):(gw x).c 2=.int x.who:=_root_.id rfl
@[simp] theorem aq9 (x:Sign):(gw x).c 3=.int x.for_:=_root_.id rfl
@[simp] theorem ara (x:Sign):(gw x).c 4=.int x.to:=_root_.id rfl
@[simp] theorem arb (x:Sign):(gw x).c 5=.int x.sum:=_root_.id rfl
@[simp] theorem arc (x:Sign):(gw x).c 6=.int x.day:=_root_.id rfl
@[simp] theorem ard (x:Sign):(gw x).c 7=.int x.city:=_root_.id rfl
@[simp] theorem arf (x:Sign):(gw x).c 8=.int x.flags:=_root_.id rfl
def signs (l:List Sign):D:=.list (l.map gw)
@[simp] theorem avg (l:List Sign):(signs l).l=l.map gw:=_root_.id rfl
@[simp] theorem avf (l:List Sign):(signs l).cells=[signs l]:=_root_.id rfl
abbrev Nv:Ty:=.agg [.int .i64,.int .i64,.int .i64,.int .i64,.int .i64,.int .i64,.int .i64,.int .i64,.int .i64]
def Sign.OK (x:Sign):Prop:=aR x.kind∧aR x.part∧aR x.who∧aR x.for_∧aR x.to∧aR x.sum∧aR x.day∧aR x.city∧aR x.flags
theorem am3 {d:D}(h:DTy Nv d):∃x:Sign,d=gw x∧x.OK:=by
 obtain⟨ds,rfl,hs⟩:=h.agg_inv;obtain⟨d0,ds,rfl,h0,hs⟩:=hs.cons_inv;obtain⟨d1,ds,rfl,h1,hs⟩:=hs.cons_inv;obtain⟨d2,ds,rfl,h2,hs⟩:=hs.cons_inv;obtain⟨d3,ds,rfl,h3,hs⟩:=hs.cons_inv;obtain⟨d4,ds,rfl,h4,hs⟩:=hs.cons_inv;obtain⟨d5,ds,rfl,h5,hs⟩:=hs.cons_inv;obtain⟨d6,ds,rfl,h6,hs⟩:=hs.cons_inv;obtain⟨d7,ds,rfl,h7,hs⟩:=hs.cons_inv;obtain⟨d8,ds,rfl,h8,hs⟩:=hs.cons_inv;obtain rfl:=hs.nil_inv;obtain⟨n0,rfl,b0⟩:=h0.i64_inv;obtain⟨n1,rfl,b1⟩:=h1.i64_inv;obtain⟨n2,rfl,b2⟩:=h2.i64_inv;obtain⟨n3,rfl,b3⟩:=h3.i64_inv;obtain⟨n4,rfl,b4⟩:=h4.i64_inv;obtain⟨n5,rfl,b5⟩:=h5.i64_inv;obtain⟨n6,rfl,b6⟩:=h6.i64_inv;obtain⟨n7,rfl,b7⟩:=h7.i64_inv;obtain⟨n8,rfl,b8⟩:=h8.i64_inv;exact⟨⟨n0,n1,n2,n3,n4,n5,n6,n7,n8⟩,rfl,⟨b0,b1,b2,b3,b4,b5,b6,b7,b8⟩⟩
theorem am4 {d:D}(h:DTy (.slice Nv) d):∃l:List Sign,d=signs l∧l.length≤maxLen∧∀y,y∈l→Sign.OK y:=by
 obtain⟨xs,rfl,hm,hx⟩:=h.slice_inv;obtain⟨l,rfl,hl⟩:=gF (enc:=gw) (P:=Sign.OK) fun x hh=>am3 (hx x hh);exact⟨l,rfl,by simpa using hm,hl⟩
structure Alter where
 at_:Int
 sum:Int
 deriving DecidableEq,Inhabited
def ln (x:Alter):D:=.agg [.int x.at_,.int x.sum]
@[simp] theorem apE (x:Alter):(ln x).cells=[.int x.at_,.int x.sum]:=_root_.id rfl
@[simp] theorem aup (x:Alter):D.agg [.int x.at_,.int x.sum]=ln x:=_root_.id rfl
@[simp] theorem apC (x:Alter):(ln x).c 0=.int x.at_:=_root_.id rfl
@[simp] theorem apD (x:Alter):(ln x).c 1=.int x.sum:=_root_.id rfl
def alters (l:List Alter):D:=.list (l.map ln)
@[simp] theorem arM (l:List Alter):(alters l).l=l.map ln:=_root_.id rfl
@[simp] theorem arL (l:List Alter):(alters l).cells=[alters l]:=_root_.id rfl
abbrev Nl:Ty:=.agg [.int .i64,.int .i64]
def Alter.OK (x:Alter):Prop:=aR x.at_∧aR x.sum
theorem W6 {d:D}(h:DTy Nl d):∃x:Alter,d=ln x∧x.OK:=by
 obtain⟨ds,rfl,hs⟩:=h.agg_inv;obtain⟨d0,ds,rfl,h0,hs⟩:=hs.cons_inv;obtain⟨d1,ds,rfl,h1,hs⟩:=hs.cons_inv;obtain rfl:=hs.nil_inv;obtain⟨n0,rfl,b0⟩:=h0.i64_inv;obtain⟨n1,rfl,b1⟩:=h1.i64_inv;exact⟨⟨n0,n1⟩,rfl,⟨b0,b1⟩⟩
theorem W7 {d:D}(h:DTy (.slice Nl) d):∃l:List Alter,d=alters l∧l.length≤maxLen∧∀y,y∈l→Alter.OK y:=by
 obtain⟨xs,rfl,hm,hx⟩:=h.slice_inv;obtain⟨l,rfl,hl⟩:=gF (enc:=ln) (P:=Alter.OK) fun x hh=>W6 (hx x hh);exact⟨l,rfl,by simpa using hm,hl⟩
structure Act where
 kind:Int
 who:Int
 to:Int
 part:Int
 at_:Int
 sum:Int
 day:Int
 city:Int
 form:Int
 deriving DecidableEq,Inhabited
def fZ (x:Act):D:=.agg [.int x.kind,.int x.who,.int x.to,.int x.part,.int x.at_,.int x.sum,.int x.day,.int x.city,.int x.form]
@[simp] theorem apB (x:Act):(fZ x).cells=[.int x.kind,.int x.who,.int x.to,.int x.part,.int x.at_,.int x.sum,.int x.day,.int x.city,.int x.form]:=_root_.id rfl
@[simp] theorem auo (x:Act):D.agg [.int x.kind,.int x.who,.int x.to,.int x.part,.int x.at_,.int x.sum,.int x.day,.int x.city,.int x.form]=fZ x:=_root_.id rfl
@[simp] theorem arD (x:Act):jc 9 (fZ x)=fZ x:=_root_.id rfl
@[simp] theorem aps (x:Act):(fZ x).c 0=.int x.kind:=_root_.id rfl
@[simp] theorem apt (x:Act):(fZ x).c 1=.int x.who:=_root_.id rfl
@[simp] theorem apu (x:Act):(fZ x).c 2=.int x.to:=_root_.id rfl
@[simp] theorem apv (x:Act):(fZ x).c 3=.int x.part:=_root_.id rfl
@[simp] theorem apw (x:Act):(fZ x).c 4=.int x.at_:=_root_.id rfl
@[simp] theorem apx (x:Act):(fZ x).c 5=.int x.sum:=_root_.id rfl
@[simp] theorem apy (x:Act):(fZ x).c 6=.int x.day:=_root_.id rfl
@[simp] theorem apz (x:Act):(fZ x).c 7=.int x.city:=_root_.id rfl
@[simp] theorem apA (x:Act):(fZ x).c 8=.int x.form:=_root_.id rfl
def acts (l:List Act):D:=.list (l.map fZ)
@[simp] theorem ary (l:List Act):(acts l).l=l.map fZ:=_root_.id rfl
@[simp] theorem arx (l:List Act):(acts l).cells=[acts l]:=_root_.id rfl
abbrev Nk:Ty:=.agg [.int .i64,.int .i64,.int .i64,.int .i64,.int .i64,.int .i64,.int .i64,.int .i64,.int .i64]
def Act.OK (x:Act):Prop:=aR x.kind∧aR x.who∧aR x.to∧aR x.part∧aR x.at_∧aR x.sum∧aR x.day∧aR x.city∧aR x.form
theorem WY {d:D}(h:DTy Nk d):∃x:Act,d=fZ x∧x.OK:=by
 obtain⟨ds,rfl,hs⟩:=h.agg_inv;obtain⟨d0,ds,rfl,h0,hs⟩:=hs.cons_inv;obtain⟨d1,ds,rfl,h1,hs⟩:=hs.cons_inv;obtain⟨d2,ds,rfl,h2,hs⟩:=hs.cons_inv;obtain⟨d3,ds,rfl,h3,hs⟩:=hs.cons_inv;obtain⟨d4,ds,rfl,h4,hs⟩:=hs.cons_inv;obtain⟨d5,ds,rfl,h5,hs⟩:=hs.cons_inv;obtain⟨d6,ds,rfl,h6,hs⟩:=hs.cons_inv;obtain⟨d7,ds,rfl,h7,hs⟩:=hs.cons_inv;obtain⟨d8,ds,rfl,h8,hs⟩:=hs.cons_inv;obtain rfl:=hs.nil_inv;obtain⟨n0,rfl,b0⟩:=h0.i64_inv;obtain⟨n1,rfl,b1⟩:=h1.i64_inv;obtain⟨n2,rfl,b2⟩:=h2.i64_inv;obtain⟨n3,rfl,b3⟩:=h3.i64_inv;obtain⟨n4,rfl,b4⟩:=h4.i64_inv;obtain⟨n5,rfl,b5⟩:=h5.i64_inv;obtain⟨n6,rfl,b6⟩:=h6.i64_inv;obtain⟨n7,rfl,b7⟩:=h7.i64_inv;obtain⟨n8,rfl,b8⟩:=h8.i64_inv;exact⟨⟨n0,n1,n2,n3,n4,n5,n6,n7,n8⟩,rfl,⟨b0,b1,b2,b3,b4,b5,b6,b7,b8⟩⟩
theorem WZ {d:D}(h:DTy (.slice Nk) d):∃l:List Act,d=acts l∧l.length≤maxLen∧∀y,y∈l→Act.OK y:=by
 obtain⟨xs,rfl,hm,hx⟩:=h.slice_inv;obtain⟨l,rfl,hl⟩:=gF (enc:=fZ) (P:=Act.OK) fun x hh=>WY (hx x hh);exact⟨l,rfl,by simpa using hm,hl⟩
structure Fact where
 kind:Int
 at_:Int
 n:Int
 deriving DecidableEq,Inhabited
def nq (x:Fact):D:=.agg [.int x.kind,.int x.at_,.int x.n]
@[simp] theorem aqo (x:Fact):(nq x).cells=[.int x.kind,.int x.at_,.int x.n]:=_root_.id rfl
@[simp] theorem auw (x:Fact):D.agg [.int x.kind,.int x.at_,.int x.n]=nq x:=_root_.id rfl
@[simp] theorem aql (x:Fact):(nq x).c 0=.int x.kind:=_root_.id rfl
@[simp] theorem aqm (x:Fact):(nq x).c 1=.int x.at_:=_root_.id rfl
@[simp] theorem aqn (x:Fact):(nq x).c 2=.int x.n:=_root_.id rfl
def facts (l:List Fact):D:=.list (l.map nq)
@[simp] theorem atc (l:List Fact):(facts l).l=l.map nq:=_root_.id rfl
@[simp] theorem atb (l:List Fact):(facts l).cells=[facts l]:=_root_.id rfl
abbrev No:Ty:=.agg [.int .i64,.int .i64,.int .i64]
def Fact.OK (x:Fact):Prop:=aR x.kind∧aR x.at_∧aR x.n
theorem acB {d:D}(h:DTy No d):∃x:Fact,d=nq x∧x.OK:=by
 obtain⟨ds,rfl,hs⟩:=h.agg_inv;obtain⟨d0,ds,rfl,h0,hs⟩:=hs.cons_inv;obtain⟨d1,ds,rfl,h1,hs⟩:=hs.cons_inv;obtain⟨d2,ds,rfl,h2,hs⟩:=hs.cons_inv;obtain rfl:=hs.nil_inv;obtain⟨n0,rfl,b0⟩:=h0.i64_inv;obtain⟨n1,rfl,b1⟩:=h1.i64_inv;obtain⟨n2,rfl,b2⟩:=h2.i64_inv;exact⟨⟨n0,n1,n2⟩,rfl,⟨b0,b1,b2⟩⟩
theorem acC {d:D}(h:DTy (.slice No) d):∃l:List Fact,d=facts l∧l.length≤maxLen∧∀y,y∈l→Fact.OK y:=by
 obtain⟨xs,rfl,hm,hx⟩:=h.slice_inv;obtain⟨l,rfl,hl⟩:=gF (enc:=nq) (P:=Fact.OK) fun x hh=>acB (hx x hh);exact⟨l,rfl,by simpa using hm,hl⟩
structure File where
 bill:Bill
 signs:List Sign
 alters:List Alter
 acts:List Act
 facts:List Fact
 deriving Inhabited
def cW (x:File):D:=.agg [.int x.bill.drawer,.int x.bill.drawee,.int x.bill.payee,.int x.bill.sum,.int x.bill.currency,.int x.bill.tenor.kind,.int x.bill.tenor.n,.int x.bill.tenor.unit,.int x.bill.day,.int x.bill.city,.int x.bill.pay,.int x.bill.need,.int x.bill.rate,.int x.bill.flags,.int x.bill.parts,signs x.signs,alters x.alters,acts x.acts,facts x.facts]
@[simp] theorem aqv (x:File):(cW x).cells=[.int x.bill.drawer,.int x.bill.drawee,.int x.bill.payee,.int x.bill.sum,.int x.bill.currency,.int x.bill.tenor.kind,.int x.bill.tenor.n,.int x.bill.tenor.unit,.int x.bill.day,.int x.bill.city,.int x.bill.pay,.int x.bill.need,.int x.bill.rate,.int x.bill.flags,.int x.bill.parts,signs x.signs,alters x.alters,acts x.acts,facts x.facts]:=_root_.id rfl
@[simp] theorem auy (x:File):D.agg [.int x.bill.drawer,.int x.bill.drawee,.int x.bill.payee,.int x.bill.sum,.int x.bill.currency,.int x.bill.tenor.kind,.int x.bill.tenor.n,.int x.bill.tenor.unit,.int x.bill.day,.int x.bill.city,.int x.bill.pay,.int x.bill.need,.int x.bill.rate,.int x.bill.flags,.int x.bill.parts,signs x.signs,alters x.alters,acts x.acts,facts x.facts]=cW x:=_root_.id rfl
@[simp] theorem arF (x:File):jc 19 (cW x)=cW x:=_root_.id rfl
@[simp] theorem auR (x:File)(a0 a1 a2 a3 a4 a5 a6 a7 a8 a9 qx qy qz qA qB vc vd ve vf:D):D.agg (dL [a0,a1,a2,a3,a4,a5,a6,a7,a8,a9,qx,qy,qz,qA,qB,vc,vd,ve,vf] 0 [.int x.bill.drawer,.int x.bill.drawee,.int x.bill.payee,.int x.bill.sum,.int x.bill.currency,.int x.bill.tenor.kind,.int x.bill.tenor.n,.int x.bill.tenor.unit,.int x.bill.day,.int x.bill.city,.int x.bill.pay,.int x.bill.need,.int x.bill.rate,.int x.bill.flags,.int x.bill.parts,signs x.signs,alters x.alters,acts x.acts,facts x.facts])=cW x:=_root_.id rfl
@[simp] theorem aqu (x:File):(cW x).c 8=.int x.bill.day:=_root_.id rfl
@[simp] theorem aqp (x:File):(cW x).c 14=.int x.bill.parts:=_root_.id rfl
@[simp] theorem aqq (x:File):(cW x).c 15=signs x.signs:=_root_.id rfl
@[simp] theorem aqr (x:File):(cW x).c 16=alters x.alters:=_root_.id rfl
@[simp] theorem aqs (x:File):(cW x).c 17=acts x.acts:=_root_.id rfl
@[simp] theorem aqt (x:File):(cW x).c 18=facts x.facts:=_root_.id rfl
abbrev ao1:Ty:=.agg [.int .i64,.int .i64,.int .i64,.int .i64,.int .i64,.int .i64,.int .i64,.int .i64,.int .i64,.int .i64,.int .i64,.int .i64,.int .i64,.int .i64,.int .i64,.slice Nv,.slice Nl,.slice Nk,.slice No]
def File.OK (x:File):Prop:=Bill.OK x.bill∧(x.signs.length≤maxLen∧∀y,y∈x.signs→Sign.OK y)∧(x.alters.length≤maxLen∧∀y,y∈x.alters→Alter.OK y)∧(x.acts.length≤maxLen∧∀y,y∈x.acts→Act.OK y)∧(x.facts.length≤maxLen∧∀y,y∈x.facts→Fact.OK y)
theorem acD {d:D}(h:DTy ao1 d):∃x:File,d=cW x∧x.OK:=by
 obtain⟨ds,rfl,hs⟩:=h.agg_inv;obtain⟨d0,ds,rfl,h0,hs⟩:=hs.cons_inv;obtain⟨d1,ds,rfl,h1,hs⟩:=hs.cons_inv;obtain⟨d2,ds,rfl,h2,hs⟩:=hs.cons_inv;obtain⟨d3,ds,rfl,h3,hs⟩:=hs.cons_inv;obtain⟨d4,ds,rfl,h4,hs⟩:=hs.cons_inv;obtain⟨d5,ds,rfl,h5,hs⟩:=hs.cons_inv;obtain⟨d6,ds,rfl,h6,hs⟩:=hs.cons_inv;obtain⟨d7,ds,rfl,h7,hs⟩:=hs.cons_inv;obtain⟨d8,ds,rfl,h8,hs⟩:=hs.cons_inv;obtain⟨d9,ds,rfl,h9,hs⟩:=hs.cons_inv;obtain⟨d10,ds,rfl,km,hs⟩:=hs.cons_inv;obtain⟨d11,ds,rfl,nB,hs⟩:=hs.cons_inv;obtain⟨d12,ds,rfl,xq,hs⟩:=hs.cons_inv;obtain⟨d13,ds,rfl,h13,hs⟩:=hs.cons_inv;obtain⟨d14,ds,rfl,h14,hs⟩:=hs.cons_inv;obtain⟨d15,ds,rfl,BE,hs⟩:=hs.cons_inv;obtain⟨d16,ds,rfl,BF,hs⟩:=hs.cons_inv;obtain⟨d17,ds,rfl,BG,hs⟩:=hs.cons_inv;obtain⟨d18,ds,rfl,BH,hs⟩:=hs.cons_inv;obtain rfl:=hs.nil_inv;obtain⟨n0,rfl,b0⟩:=h0.i64_inv;obtain⟨n1,rfl,b1⟩:=h1.i64_inv;obtain⟨n2,rfl,b2⟩:=h2.i64_inv;obtain⟨n3,rfl,b3⟩:=h3.i64_inv;obtain⟨n4,rfl,b4⟩:=h4.i64_inv;obtain⟨n5,rfl,b5⟩:=h5.i64_inv;obtain⟨n6,rfl,b6⟩:=h6.i64_inv;obtain⟨n7,rfl,b7⟩:=h7.i64_inv;obtain⟨n8,rfl,b8⟩:=h8.i64_inv;obtain⟨n9,rfl,b9⟩:=h9.i64_inv;obtain⟨n10,rfl,YM⟩:=km.i64_inv;obtain⟨n11,rfl,YN⟩:=nB.i64_inv;obtain⟨n12,rfl,YO⟩:=xq.i64_inv;obtain⟨n13,rfl,YP⟩:=h13.i64_inv;obtain⟨n14,rfl,YQ⟩:=h14.i64_inv;obtain⟨n15,rfl,YR,Zr⟩:=am4 BE;obtain⟨n16,rfl,YS,Zs⟩:=W7 BF;obtain⟨n17,rfl,YT,Zt⟩:=WZ BG;obtain⟨n18,rfl,YU,Zu⟩:=acC BH;exact⟨⟨⟨n0,n1,n2,n3,n4,⟨n5,n6,n7⟩,n8,n9,n10,n11,n12,n13,n14⟩,n15,n16,n17,n18⟩,rfl,⟨⟨b0,b1,b2,b3,b4,⟨b5,b6,b7⟩,b8,b9,YM,YN,YO,YP,YQ⟩,⟨YR,Zr⟩,⟨YS,Zs⟩,⟨YT,Zt⟩,⟨YU,Zu⟩⟩⟩
structure Case where
 file:File
 sign:Int
 holder:Int
 defence:Int
 due:Int
 day:Int
 deriving Inhabited
def dP (x:Case):D:=.agg [.int x.file.bill.drawer,.int x.file.bill.drawee,.int x.file.bill.payee,.int x.file.bill.sum,.int x.file.bill.currency,.int x.file.bill.tenor.kind,.int x.file.bill.tenor.n,.int x.file.bill.tenor.unit,.int x.file.bill.day,.int x.file.bill.city,.int x.file.bill.pay,.int x.file.bill.need,.int x.file.bill.rate,.int x.file.bill.flags,.int x.file.bill.parts,signs x.file.signs,alters x.file.alters,acts x.file.acts,facts x.file.facts,.int x.sign,.int x.holder,.int x.defence,.int x.due,.int x.day]
@[simp] theorem ap3 (x:Case):(dP x).cells=[.int x.file.bill.drawer,.int x.file.bill.drawee,.int x.file.bill.payee,.int x.file.bill.sum,.int x.file.bill.currency,.int x.file.bill.tenor.kind,.int x.file.bill.tenor.n,.int x.file.bill.tenor.unit,.int x.file.bill.day,.int x.file.bill.city,.int x.file.bill.pay,.int x.file.bill.need,.int x.file.bill.rate,.int x.file.bill.flags,.int x.file.bill.parts,signs x.file.signs,alters x.file.alters,acts x.file.acts,facts x.file.facts,.int x.sign,.int x.holder,.int x.defence,.int x.due,.int x.day]:=_root_.id rfl
@[simp] theorem aur (x:Case):D.agg [.int x.file.bill.drawer,.int x.file.bill.drawee,.int x.file.bill.payee,.int x.file.bill.sum,.int x.file.bill.currency,.int x.file.bill.tenor.kind,.int x.file.bill.tenor.n,.int x.file.bill.tenor.unit,.int x.file.bill.day,.int x.file.bill.city,.int x.file.bill.pay,.int x.file.bill.need,.int x.file.bill.rate,.int x.file.bill.flags,.int x.file.bill.parts,signs x.file.signs,alters x.file.alters,acts x.file.acts,facts x.file.facts,.int x.sign,.int x.holder,.int x.defence,.int x.due,.int x.day]=dP x:=_root_.id rfl
@[simp] theorem W5 (x:Case):jc 24 (dP x)=dP x:=_root_.id rfl
@[simp] theorem ald (x:Case)(a0 a1 a2 a3 a4 a5 a6 a7 a8 a9 qx qy qz qA qB vc vd ve vf WS WT WU WV WW:D):D.agg (dL [a0,a1,a2,a3,a4,a5,a6,a7,a8,a9,qx,qy,qz,qA,qB,vc,vd,ve,vf,WS,WT,WU,WV,WW] 0 [.int x.file.bill.drawer,.int x.file.bill.drawee,.int x.file.bill.payee,.int x.file.bill.sum,.int x.file.bill.currency,.int x.file.bill.tenor.kind,.int x.file.bill.tenor.n,.int x.file.bill.tenor.unit,.int x.file.bill.day,.int x.file.bill.city,.int x.file.bill.pay,.int x.file.bill.need,.int x.file.bill.rate,.int x.file.bill.flags,.int x.file.bill.parts,signs x.file.signs,alters x.file.alters,acts x.file.acts,facts x.file.facts,.int x.sign,.int x.holder,.int x.defence,.int x.due,.int x.day])=dP x:=_root_.id rfl
@[simp] theorem ap2 (x:Case):(dP x).c 9=.int x.file.bill.city:=_root_.id rfl
@[simp] theorem apV (x:Case):(dP x).c 10=.int x.file.bill.pay:=_root_.id rfl
@[simp] theorem apW (x:Case):(dP x).c 15=signs x.file.signs:=_root_.id rfl
@[simp] theorem apX (x:Case):(dP x).c 19=.int x.sign:=_root_.id rfl
@[simp] theorem apY (x:Case):(dP x).c 20=.int x.holder:=_root_.id rfl
@[simp] theorem apZ (x:Case):(dP x).c 21=.int x.defence:=_root_.id rfl
@[simp] theorem ap0 (x:Case):(dP x).c 22=.int x.due:=_root_.id rfl
@[simp] theorem ap1 (x:Case):(dP x).c 23=.int x.day:=_root_.id rfl
def cases(l:List Case):D:=.list (l.map dP)
structure Cell where
 known:Bool
 n:Int
 deriving DecidableEq,Inhabited
def ct (x:Cell):D:=.agg [.bool x.known,.int x.n]
@[simp] theorem ap6 (x:Cell):(ct x).cells=[.bool x.known,.int x.n]:=_root_.id rfl
@[simp] theorem aus (x:Cell):D.agg [.bool x.known,.int x.n]=ct x:=_root_.id rfl
@[simp] theorem ap4 (x:Cell):(ct x).c 0=.bool x.known:=_root_.id rfl
@[simp] theorem ap5 (x:Cell):(ct x).c 1=.int x.n:=_root_.id rfl
def cells (l:List Cell):D:=.list (l.map ct)
@[simp] theorem ar2 (l:List Cell):(cells l).l=l.map ct:=_root_.id rfl
@[simp] theorem ar1 (l:List Cell):(cells l).cells=[cells l]:=_root_.id rfl
structure Said where
 cell:Cell
 order:Int
 path:List Int
 err:Int
 deriving Inhabited
def Bo (x:Said):D:=.agg [.bool x.cell.known,.int x.cell.n,.int x.order,ints x.path,.int x.err]
@[simp] theorem aq2 (x:Said):(Bo x).cells=[.bool x.cell.known,.int x.cell.n,.int x.order,ints x.path,.int x.err]:=_root_.id rfl
@[simp] theorem avo (a0 x0:D):dL [a0] 0 [x0]=[x0]:=_root_.id rfl
@[simp] theorem avp (a0 a1 x0 x1:D):dL [a0,a1] 0 [x0,x1]=[x0,x1]:=_root_.id rfl
@[simp] theorem avq (a0 a1 a2 x0 x1 x2:D):dL [a0,a1,a2] 0 [x0,x1,x2]=[x0,x1,x2]:=_root_.id rfl
@[simp] theorem avr (a0 a1 a2 a3 x0 x1 x2 x3:D):dL [a0,a1,a2,a3] 0 [x0,x1,x2,x3]=[x0,x1,x2,x3]:=_root_.id rfl
@[simp] theorem avs (a0 a1 a2 a3 a4 x0 x1 x2 x3 x4:D):dL [a0,a1,a2,a3,a4] 0 [x0,x1,x2,x3,x4]=[x0,x1,x2,x3,x4]:=_root_.id rfl
@[simp] theorem avt (a0 a1 a2 a3 a4 a5 x0 x1 x2 x3 x4 x5:D):dL [a0,a1,a2,a3,a4,a5] 0 [x0,x1,x2,x3,x4,x5]=[x0,x1,x2,x3,x4,x5]:=_root_.id rfl
@[simp] theorem avu (a0 a1 a2 a3 a4 a5 a6 a7 a8 x0 x1 x2 x3 x4 x5 x6 x7 x8:D):dL [a0,a1,a2,a3,a4,a5,a6,a7,a8] 0 [x0,x1,x2,x3,x4,x5,x6,x7,x8]=[x0,x1,x2,x3,x4,x5,x6,x7,x8]:=_root_.id rfl
end Rm
set_option maxRecDepth 100000
namespace Rm
open Go Go.Proofs Cx
abbrev I:Ty:=.int .i64
abbrev Y0:Ty:=.agg [.str,I,I,(.slice I),(.slice I),(.slice I)]
abbrev Y1:Ty:=.agg [I]
abbrev Y2:Ty:=.agg [.str,I,I]
abbrev Y3:Ty:=.agg [I,I,.bool]
abbrev Y4:Ty:=.agg [I,I,I,(.slice .trm)]
abbrev Y5:Ty:=.agg [.str,.bool,(.slice Y3),(.slice Y4)]
abbrev Y6:Ty:=.agg [I,I,I]
abbrev Y7:Ty:=.agg [I,I,I,I,I]
abbrev Y8:Ty:=.agg [(.slice .str),(.slice Y0),(.slice Y1),(.slice Y2),(.slice Y5),(.slice Y6),(.slice Y7),(.slice Y6)]
abbrev Y9:Ty:=.agg [I,I,I,I,I,I,I,I,I]
abbrev jN:Ty:=.agg [I,I]
abbrev gO:Ty:=.agg [I,I,I,I,I,I,I,I,I,I,I,I,I,I,I,(.slice Y9),(.slice jN),(.slice Y9),(.slice Y6)]
abbrev FX:Ty:=.agg [.bool,I,I,(.slice I),I]
abbrev l9:Ty:=.agg [I,I,I,I,I,I,I,I,I,I,I,I,I,I,I,(.slice Y9),(.slice jN),(.slice Y9),(.slice Y6),I,I,I,I,I]
abbrev NL:Ty:=.agg [I,I,I,I,I,I,I,I,I,I,I,I,I,I,I]
abbrev iJ:Ty:=.agg [.bool,I]
abbrev ni:Ty:=.agg [I,I,(.slice .trm)]
abbrev NM:Ty:=.agg [(.slice iJ)]
abbrev WR:Ty:=.agg [(.slice I),I]
def ah:List (Nat×Sig):=[
 (3,⟨[Y8,I,gO,Y6],.bool,.dat⟩),
 (4,⟨[],.bool,.dat⟩),
 (5,⟨[Y8,gO],.bool,.dat⟩),
 (6,⟨[Y8],I,.dat⟩),
 (7,⟨[gO],.bool,.dat⟩),
 (8,⟨[Y8,gO],I,.dat⟩),
 (9,⟨[Y8,I,gO,Y6],(.tup [(.slice I),I]),.dat⟩),
 (10,⟨[FX],I,.dat⟩),
 (11,⟨[Y8,I,I,l9],FX,.dat⟩),
 (12,⟨[(.slice I),(.slice I),(.slice Y6),(.slice I)],.bool,.dat⟩),
 (13,⟨[(.slice Y6),(.slice I),(.slice Y6)],(.tup [(.slice jN),I]),.dat⟩),
 (14,⟨[(.slice Y6),(.slice Y6),(.slice jN)],(.slice I),.dat⟩),
 (15,⟨[(.slice I),(.slice I)],.bool,.dat⟩),
 (16,⟨[(.slice Y6),(.slice jN),I],I,.dat⟩),
 (17,⟨[(.slice Y6),(.slice I),(.slice Y6)],.bool,.dat⟩),
 (18,⟨[Y8],.bool,.dat⟩),
 (19,⟨[gO],.bool,.dat⟩),
 (20,⟨[Y5],.bool,.dat⟩),
 (21,⟨[Y8],(.tup [(.slice .str),(.slice .str),(.slice .str)]),.dat⟩),
 (22,⟨[(.slice .str),I,(.fn [I] .bool)],I,.dat⟩),
 (23,⟨[I],.bool,.dat⟩),
 (24,⟨[I,(.ref Y8)],.bool,.dat⟩),
 (25,⟨[Y8,Y0],.bool,.dat⟩),
 (26,⟨[I,I],.bool,.dat⟩),
 (27,⟨[I,(.ref Y8)],.bool,.dat⟩),
 (28,⟨[I,(.ref Y8)],.bool,.dat⟩),
 (29,⟨[Y5],.bool,.dat⟩),
 (30,⟨[Y8],I,.dat⟩),
 (31,⟨[Y8],I,.dat⟩),
 (32,⟨[Y8,NL],I,.dat⟩),
 (33,⟨[Y8,gO,I],I,.dat⟩),
 (34,⟨[I,I,I],.bool,.dat⟩),
 (35,⟨[Y8,gO],I,.dat⟩),
 (36,⟨[gO],I,.dat⟩),
 (37,⟨[Y8,I,I,l9],(.tup [FX,(.slice iJ)]),.dat⟩),
 (38,⟨[Y5,I,(.slice iJ)],(.tup [iJ,I]),.dat⟩),
 (39,⟨[I,I,(.slice I),(.slice Y6),(.fn [I,I] (.tup []))],I,(.ob [(.dat I),(.dat I),(.dat (.slice I)),(.dat (.slice Y6)),(.fclo 40 [(900,0),(902,0),(904,0)])] [(900,(.box false [(.obj 901 0)])),(901,(.row 74 jN)),(902,(.box false [(.obj 903 0)])),(903,(.row 3 I)),(904,(.box false [(.dat (.slice Y6))]))])⟩),
 (40,⟨[I,I],(.tup []),(.ob [(.dat I),(.dat I),(.ptr 900 0 0),(.ptr 902 0 0),(.ptr 904 0 0)] [(900,(.box false [(.obj 901 0)])),(901,(.row 74 jN)),(902,(.box false [(.obj 903 0)])),(903,(.row 3 I)),(904,(.box false [(.dat (.slice Y6))]))])⟩),
 (41,⟨[I,I,I],.bool,.dat⟩),
 (42,⟨[ni],.bool,.dat⟩),
 (43,⟨[(.slice .str),I],I,.dat⟩),
 (44,⟨[(.slice I),I,I],.bool,.dat⟩),
 (45,⟨[I,I],.bool,.dat⟩),
 (46,⟨[NL],.bool,.dat⟩),
 (47,⟨[Y8,I,I],(.tup [I,I]),.dat⟩),
 (48,⟨[Y8,gO,I],.bool,.dat⟩),
 (49,⟨[Y8,gO,Y9],.bool,.dat⟩),
 (50,⟨[(.slice I)],I,.dat⟩),
 (51,⟨[I,I],I,.dat⟩),
 (52,⟨[Y8,l9],(.tup [l9,(.slice iJ)]),.dat⟩),
 (53,⟨[I],(.tup [I,.bool]),.dat⟩),
 (54,⟨[Y8,I,l9],(.nsl I),.dat⟩),
 (55,⟨[Y8,I,I,(.slice I)],(.tup [(.slice I),I]),.dat⟩),
 (56,⟨[Y5,I],(.tup [ni,I]),.dat⟩),
 (57,⟨[ni,(.slice iJ)],iJ,.dat⟩),
 (58,⟨[I,I,I],I,.dat⟩),
 (59,⟨[ni,I,I],I,.dat⟩),
 (60,⟨[.str],.bool,.dat⟩),
 (61,⟨[(.slice .str),.str],.bool,.dat⟩),
 (62,⟨[gO,I,(.slice I)],.bool,.dat⟩),
 (63,⟨[gO,I,I],.bool,.dat⟩),
 (64,⟨[I],.bool,.dat⟩),
 (65,⟨[gO,I],gO,.dat⟩),
 (66,⟨[Y8,l9],(.slice iJ),.dat⟩),
 (67,⟨[(.slice I),I],.bool,.dat⟩),
 (68,⟨[Y8,I],I,.dat⟩),
 (69,⟨[Y8,I,I,(.slice I)],.bool,.dat⟩),
 (70,⟨[Y8,I,I,(.slice I)],(.tup [I,.bool]),.dat⟩),
 (71,⟨[(.slice Y4),(.fn [Y4] .bool)],I,.dat⟩),
 (72,⟨[Y4,(.ref I)],.bool,.dat⟩),
 (73,⟨[ni],(.tup [I,I]),.dat⟩),
 (74,⟨[NM,ni],(.tup [iJ,(.slice I)]),.dat⟩),
 (75,⟨[(.int .u64),(.int .u64)],(.tup [(.int .u64),(.int .u64)]),.dat⟩),
 (76,⟨[(.int .u64),(.int .u64),(.int .u64)],(.tup [(.int .u64),(.int .u64)]),.dat⟩),
 (77,⟨[(.slice .str),.str],I,.dat⟩),
 (78,⟨[I,I],.bool,.dat⟩),
 (79,⟨[(.slice jN),(.fn [jN] .bool)],.bool,.dat⟩),
 (80,⟨[jN,(.ref l9)],.bool,.dat⟩),
 (81,⟨[.bool],iJ,.dat⟩),
 (82,⟨[gO,I,I],iJ,.dat⟩),
 (83,⟨[(.slice I),I],I,.dat⟩),
 (84,⟨[(.slice I),(.fn [I] .bool)],.bool,.dat⟩),
 (85,⟨[I,(.ref I)],.bool,.dat⟩),
 (86,⟨[ni,I],I,.dat⟩),
 (87,⟨[ni],(.tup [I,I]),.dat⟩),
 (88,⟨[NM,I],iJ,.dat⟩),
 (89,⟨[I,(.slice iJ)],iJ,.dat⟩),
 (90,⟨[(.slice (.slice I))],(.slice I),.dat⟩),
 (91,⟨[(.int .u64)],I,.dat⟩),
 (92,⟨[(.slice jN),(.fn [jN] .bool)],I,.dat⟩),
 (93,⟨[(.slice I),(.fn [I] .bool)],I,.dat⟩),
 (94,⟨[ni],(.tup [I,I]),.dat⟩),
 (95,⟨[I],WR,.dat⟩),
 (96,⟨[I],(.tup [I,.bool]),.dat⟩),
 (97,⟨[.bool],iJ,.dat⟩),
 (98,⟨[I],I,.dat⟩),
 (99,⟨[I,I,I],I,.dat⟩),
 (100,⟨[.nils .bool,I],(.slice I),(.row 3 I)⟩),
 (101,⟨[(.int .u64)],I,.dat⟩),
 (102,⟨[I,I],I,.dat⟩)]
def Gy:List (Nat×CSig):=[
 (23,⟨[],[I],.bool⟩),
 (24,⟨[(.ref Y8)],[I],.bool⟩),
 (27,⟨[(.ref Y8)],[I],.bool⟩),
 (28,⟨[(.ref Y8)],[I],.bool⟩),
 (72,⟨[(.ref I)],[Y4],.bool⟩),
 (80,⟨[(.ref l9)],[jN],.bool⟩),
 (85,⟨[(.ref I)],[I],.bool⟩)]
abbrev Sc:Nat:=3
abbrev Jx:Nat:=4
abbrev Sy:Nat:=5
abbrev Sz:Nat:=6
abbrev Jz:Nat:=7
abbrev Si:Nat:=8
abbrev R8:Nat:=9
abbrev RR:Nat:=10
abbrev RQ:Nat:=11
abbrev Sd:Nat:=12
abbrev R6:Nat:=13
abbrev R3:Nat:=14
abbrev Sq:Nat:=15
abbrev R4:Nat:=16
abbrev R5:Nat:=17
abbrev Sr:Nat:=18
abbrev Ss:Nat:=19
abbrev Sw:Nat:=20
abbrev SI:Nat:=21
abbrev SD:Nat:=22
abbrev JA:Nat:=23
abbrev JB:Nat:=24
abbrev SC:Nat:=25
abbrev SF:Nat:=26
abbrev JC:Nat:=27
abbrev JD:Nat:=28
abbrev SJ:Nat:=29
abbrev SM:Nat:=30
abbrev SK:Nat:=31
abbrev Tl:Nat:=32
abbrev So:Nat:=33
abbrev yK:Nat:=34
abbrev Sk:Nat:=35
abbrev Sm:Nat:=36
abbrev RS:Nat:=37
abbrev Se:Nat:=38
abbrev Sb:Nat:=39
abbrev R7:Nat:=40
abbrev R9:Nat:=41
abbrev Su:Nat:=42
abbrev SH:Nat:=43
abbrev SL:Nat:=44
abbrev Tn:Nat:=45
abbrev To:Nat:=46
abbrev SB:Nat:=47
abbrev Sn:Nat:=48
abbrev Sj:Nat:=49
abbrev RY:Nat:=50
abbrev RX:Nat:=51
abbrev RT:Nat:=52
abbrev Sf:Nat:=53
abbrev aj8:Nat:=54
abbrev R0:Nat:=55
abbrev Sg:Nat:=56
abbrev S9:Nat:=57
abbrev Sa:Nat:=58
abbrev Sv:Nat:=59
abbrev SG:Nat:=60
abbrev SY:Nat:=61
abbrev Sl:Nat:=62
abbrev Sp:Nat:=63
abbrev RZ:Nat:=64
abbrev SN:Nat:=65
abbrev SP:Nat:=66
abbrev SX:Nat:=67
abbrev SA:Nat:=68
abbrev R2:Nat:=69
abbrev R1:Nat:=70
abbrev S4:Nat:=71
abbrev Jy:Nat:=72
abbrev S8:Nat:=73
abbrev JE:Nat:=74
abbrev Jv:Nat:=75
abbrev RU:Nat:=76
abbrev S7:Nat:=77
abbrev SS:Nat:=78
abbrev SV:Nat:=79
abbrev SQ:Nat:=80
abbrev SR:Nat:=81
abbrev SO:Nat:=82
abbrev S6:Nat:=83
abbrev SW:Nat:=84
abbrev Jw:Nat:=85
abbrev Th:Nat:=86
abbrev Tc:Nat:=87
abbrev Tg:Nat:=88
abbrev Td:Nat:=89
abbrev SU:Nat:=90
abbrev RV:Nat:=91
abbrev SZ:Nat:=92
abbrev S5:Nat:=93
abbrev Tf:Nat:=94
abbrev Tj:Nat:=95
abbrev Ta:Nat:=96
abbrev Tk:Nat:=97
abbrev Te:Nat:=98
abbrev Tb:Nat:=99
abbrev RW:Nat:=101
abbrev Ti:Nat:=102
noncomputable def ctx:Ctx:={P:=Tryd.prog,cap:=ab Gy,sig:=ab ah,ajX:=fun _=>none,glob:=LU 0 [6,7,10,12,13,14,15,16,20,21]}
abbrev iw:PE:=.con (.v (.string ⟨#[0,1,2,2,3,3,3,3,4,4,4,4,4,4,4,4,5,5,5,5,5,5,5,5,5,5,5,5,5,5,5,5,6,6,6,6,6,6,6,6,6,6,6,6,6,6,6,6,6,6,6,6,6,6,6,6,6,6,6,6,6,6,6,6,7,7,7,7,7,7,7,7,7,7,7,7,7,7,7,7,7,7,7,7,7,7,7,7,7,7,7,7,7,7,7,7,7,7,7,7,7,7,7,7,7,7,7,7,7,7,7,7,7,7,7,7,7,7,7,7,7,7,7,7,7,7,7,7,8,8,8,8,8,8,8,8,8,8,8,8,8,8,8,8,8,8,8,8,8,8,8,8,8,8,8,8,8,8,8,8,8,8,8,8,8,8,8,8,8,8,8,8,8,8,8,8,8,8,8,8,8,8,8,8,8,8,8,8,8,8,8,8,8,8,8,8,8,8,8,8,8,8,8,8,8,8,8,8,8,8,8,8,8,8,8,8,8,8,8,8,8,8,8,8,8,8,8,8,8,8,8,8,8,8,8,8,8,8,8,8,8,8,8,8,8,8,8,8,8,8,8,8,8,8,8,8]⟩))
abbrev rY:PE:=.ai .or .u64 (.ai .shl .u64 r0 (.conv .u64 pX)) (.ai .shr .u64 r1 (.ai .sub .u64 (.con (.v (.int .u64 64))) (.conv .u64 pX)))
abbrev ez:PE:=.con (.agg [(.bool false),(.int 0)])
abbrev mQ:PE:=.ai .sub .u64 (.ai .add .u64 (.ai .mul .u64 bl (.con (.v (.int .u64 4294967296)))) bF) (.ai .mul .u64 cZ r2)
abbrev lV:PE:=.ai .shr .u64 (.ai .shl .u64 r2 (.conv .u64 pX)) (.con (.v (.int .u64 32)))
abbrev mS:PE:=.deref (.con (.ref (.agg [(.int 6),(.int 7),(.int 10),(.int 12),(.int 13),(.int 14),(.int 15),(.int 16),(.int 20),(.int 21)])))
abbrev ix:PE:=.setc z3 0 (.mk [(pc (.mk [r0]) 5),(pc (.mk [r0]) 6),(pc (.mk [r0]) 7)])
abbrev ES:PE:=.put (.put (.put (.put (.con (.map [])) (pi 7) (aT (.ai .and .i64 (pc o6 13) (pi 1)) (pi 0))) (pi 8) (ao (pc o6 2) (pi (-1)))) (pi 9) (aT (.ai .and .i64 (pc o6 13) (pi 4)) (pi 0))) (pi 10) (aT (.ai .and .i64 (pc o6 13) (pi 2)) (pi 0))
abbrev gI:PE:=.con (.v (.int .u64 4294967296))
abbrev pO:PE:=.con (.v (.int .u64 32))
abbrev jA:PE:=.con (.agg [(.int 0),(.int 0),(.list [])])
abbrev ED:PE:=.con (.agg [(.int 0),(.int 0),(.int 0),(.int 0),(.int 0),(.int 0),(.int 0),(.int 0),(.int 0),(.int 0),(.int 0),(.int 0),(.int 0),(.int 0),(.int 0),(.list []),(.list []),(.list []),(.list [])])
abbrev iV:PE:=.con (.agg [(.list []),(.int 0)])
abbrev rX:PE:=.con (.v (.int .u64 4294967295))
abbrev cq:PE:=pi 4294967296
abbrev kK:PE:=.setc z9 0 (pn (pc (.mk [r1]) 15) r2)
abbrev uB:PE:=.mk [(pc (.setc ez 0 dJ) 0),(pc (.setc ez 0 dJ) 1)]
abbrev uC:PE:=.setc z9 0 (pn (pc (.mk [r2]) 15) (pc (.mk [r2]) 19))
abbrev lT:PE:=.conv .u64 pX
abbrev KH:PE:=.put (.put (.put (.con (.map [])) (pi 0) (pc o6 3)) (pi 1) (pc o6 14)) (pi 2) (pc o6 5)
abbrev EE:PE:=.pick (.pick (ao (.tget oq 0) (pi 0)) (pc cw 0) pF) (.setc cw 1 (.mn (.mx (pc cw 1) (pi 0)) (pi 20000))) cw
abbrev yW:PE:=.mk [(pc (.setc o4 0 (.mk [pF,(pi 0)])) 0),(pc (.setc o4 0 (.mk [pF,(pi 0)])) 1)]
abbrev EF:PE:=.con (.agg [(.int 0),(.int 0),(.bool false)])
abbrev EG:PE:=.ai .shr .u64 (.ai .sub .u64 (.ai .add .u64 (.ai .mul .u64 gm gI) bG) (.ai .mul .u64 fA r2)) r8
abbrev rZ:PE:=.setc (.setc cw 3 (.tget y5 0)) 4 (.tget y5 1)
abbrev oh:PE:=.ai .shr .u64 r0 pO
abbrev yX:PE:=.con (.agg [(.bool false),(.int 0),(.int 0),(.list []),(.int 0)])
abbrev EH:PE:=.con (.v (.int .u64 16))
abbrev kL:PE:=.con (.v (.int .u64 8))
abbrev sc:PE:=pc (.mk [r0]) 2
abbrev KI:PE:=.pick (aY fA gI) pT (bm (.ai .mul .u64 fA bY) (.ai .add .u64 (.ai .mul .u64 gI cg) bG))
abbrev KJ:PE:=.pick (aY cZ gI) pT (bm (.ai .mul .u64 cZ bY) (.ai .add .u64 (.ai .mul .u64 gI cg) bF))
abbrev KK:PE:=.mk [(pc (.setc o4 0 (.mk [(pi 0),(pi 0),pL])) 0),(pc (.setc o4 0 (.mk [(pi 0),(pi 0),pL])) 1),pL]
abbrev EI:PE:=.ai .sub .u64 rY (.ai .mul .u64 (.ai .quo .u64 rY lV) lV)
abbrev UN:PE:=.cb .neq cg (.pick (.pick (.pick (.pick (ao (pc tZ 0) (pi 6)) (ao (pc tZ 1) (pc o7 0)) pF) (bO (pc tZ 6) (pc o7 1)) pF) (aY E3 (pi 0)) pF) (aY (aL (pc tZ 6) E3) (pc o7 1)) pF)
abbrev EJ:PE:=.ai .sub .u64 mQ (.ai .mul .u64 (.ai .quo .u64 mQ r9) r9)
abbrev EK:PE:=aY (.ai .sub .u64 (.con (.v (.int .u64 64))) lT) (pi 0)
abbrev UO:PE:=.pick (.pick (ao (.tget gJ 0) (.con (.v (.int .u64 0)))) (aj (.tget gJ 1) (.con (.v (.int .u64 1099511627776)))) pF) (.conv .i64 (.tget gJ 1)) (pi 1099511627776)
abbrev KL:PE:=aQ 5 (.setc o8 0 (.mk [(pc cw 0),(pc cw 1),(pc cw 2),(.o 16394),(pc cw 4)]))
abbrev kM:PE:=.llen (pc o3 2)
abbrev UP:PE:=.pick (.pick (.pick (aj (pc uC 2) (pi 0)) pT (aY (pc uC 2) (.llen (pc (.mk [r0]) 3)))) pT (aj r1 (pi 0))) pT (aY r1 (.llen (pc (.mk [r0]) 4)))
abbrev KM:PE:=.put (.con (.map [])) (pi 7) (aT (.ai .and .i64 (pc o6 13) (pi 1)) (pi 0))
abbrev yY:PE:=.ai .shl .u64 r2 lT
abbrev UQ:PE:=.ai .shl .u64 r1 lT
abbrev UR:PE:=.ai .add .u64 (.ai .mul .u64 oh (.ai .and .u64 r1 rX)) (.ai .shr .u64 (.ai .mul .u64 (.ai .and .u64 r0 rX) (.ai .and .u64 r1 rX)) pO)
abbrev lU:PE:=pc (.mk [r0]) 0
abbrev mR:PE:=aQ 8 (.mk [r0])
abbrev US:PE:=.app o2 (.lst [(pc (.setc (.con (.agg [(.v (.string ⟨#[]⟩)),(.int 0),(.int 0),(.list []),(.list []),(.list [])])) 0 (pn bZ bG)) 0)])
abbrev yZ:PE:=bS (pi 2) (pc (pn o7 (pi 0)) 1)
abbrev EL:PE:=.setc jA 0 (.sub (pn (pc o2 3) lY) 1 3)
abbrev EM:PE:=.ai .add .u64 (.ai .mul .u64 cZ gI) fA
abbrev om:PE:=pc (.mk [r0]) 15
abbrev UT:PE:=.app o4 (.lst [(pc (.setc (.con (.agg [(.v (.string ⟨#[]⟩)),(.bool false),(.list []),(.list [])])) 0 (pn fB mV)) 0)])
abbrev UU:PE:=.put (.put (.put ES (pi 11) (aT KQ KR)) (pi 12) bF) (pi 13) (aT (.ai .and .i64 (pc o8 8) (pi 1)) (pi 0))
abbrev lW:PE:=pn r1 (pi 1)
abbrev uD:PE:=.tget (.o 1000000013) 0
abbrev pR:PE:=pi 1099511627776
abbrev KN:PE:=.put (.put KH (pi 3) (pc o6 12)) (pi 4) (pc o8 0)
abbrev UW:PE:=.pick (bm (.llen (pc (pn (pc o1 1) r3) 4)) (pi 70)) pT (bm (.llen (pc (pn (pc o1 1) r3) 5)) (pi 210))
abbrev y0:PE:=.setc EF 0 (pn lY fV)
abbrev UX:PE:=.app o3 (.lst [(pc (.setc (.con (.agg [(.v (.string ⟨#[]⟩)),(.int 0),(.int 0)])) 0 (pn fV dJ)) 0)])
abbrev kN:PE:=pn bG cg
abbrev UY:PE:=.app o4 (.lst [(pc (.setc (.con (.agg [(.int 0),(.int 0),(.int 0),(.list [])])) 0 (pn dJ gn)) 0)])
abbrev pS:PE:=.llen (pc o5 0)
abbrev pU:PE:=.llen (pc o1 4)
abbrev pV:PE:=.llen (pc o1 1)
abbrev UZ:PE:=.an (.cb .eql (pc (pn r1 (pi 0)) 0) (pc uB 0)) (.an (ao (pc (pn r1 (pi 0)) 1) (pc uB 1)) pT)
abbrev U0:PE:=.app (.o 69637) (.lst [(.mk [(pc (.setc z2 0 (pn ou kQ)) 0),(pc (.setc z2 0 (pn ou kQ)) 1)])])
abbrev U1:PE:=.mk [(aQ 19 o6),(pc (.setc z9 0 (pn (pc o6 17) bG)) 4),(pi (-1)),(pi (-1)),(pi (-1)),(pc o7 1)]
abbrev y1:PE:=.ai .shr .u64 oh EH
abbrev uE:PE:=.ai .add .u64 cg r9
abbrev KO:PE:=.setc o4 0 (.mk [(pc o9 0),(pc o9 1),(pc o9 2)])
abbrev EN:PE:=ao r0 (.con (.v (.int .u64 0)))
abbrev mT:PE:=.llen sc
abbrev U2:PE:=.setc o4 0 (.mk [(pc (.setc ez 0 (.tget lX 0)) 0),(pc (.setc ez 0 (.tget lX 0)) 1)])
abbrev y2:PE:=.setc z3 0 (pn mY eT)
abbrev EO:PE:=.setc ez 0 (.mk [pT,(pi 1)])
abbrev EP:PE:=.setc ez 0 (.mk [pT,(pi 0)])
abbrev ER:PE:=bS (.llen (pc o3 3)) (pi 1)
abbrev sd:PE:=pc (.mk [r0]) 1
abbrev se:PE:=.mk [pF,(pi 0)]
abbrev y3:PE:=.ai .shr .u64 r0 EH
abbrev sf:PE:=aL r8 (pi 1)
abbrev U3:PE:=.pick (.pick KS pT (.nt E2)) pT (.look pG (.mk [(pc rP 0),(pc rP 1)]) pF)
abbrev uF:PE:=aY pO (pi 0)
abbrev uG:PE:=pc (.mk [r0]) 18
abbrev oo:PE:=pn fA fj
abbrev ET:PE:=.con (.v (.int .u64 256))
abbrev EU:PE:=.ai .shr .u64 UQ pO
abbrev EV:PE:=.ai .and .u64 UQ rX
abbrev EW:PE:=.ai .and .u64 yY rX
abbrev KP:PE:=.pick (aY r0 (pi 0)) (aj r0 r1) pF
abbrev uH:PE:=.llen (pc o1 3)
abbrev U4:PE:=.setc o4 0 (.mk [(pc (.setc ez 0 KU) 0),(pc (.setc ez 0 KU) 1)])
abbrev U5:PE:=.setc o4 0 (.mk [(pc (.setc ez 0 kO) 0),(pc (.setc ez 0 kO) 1)])
abbrev EX:PE:=.setc z3 0 (pn gK ot)
abbrev U6:PE:=.setc iV 0 (.mk [(.lst [(pi 1),(pi (-1)),(pi (-1))]),(pi (-1))])
abbrev U7:PE:=.pick (aT (pc o3 22) (pi (-1))) (bS (pc o8 6) (pc o3 22)) (pi 0)
abbrev EY:PE:=.con (.v (.int .u64 1))
abbrev KG:PE:=.ai .rem .i64 (pn r8 bY) (pi 100)
abbrev EC:PE:=.ai .quo .u64 rY lV
abbrev UL:PE:=pc (.setc (.con (.agg [(.int 0)])) 0 (.llen (pc (.mk [r0]) 4))) 0
abbrev UM:PE:=.app (.o 77829) (.lst [(.mk [(pc rO 0),(pc rO 1),(pc rO 2)])])
abbrev pP:PE:=pn bl bF
abbrev pQ:PE:=pn bY bZ
end Rm
