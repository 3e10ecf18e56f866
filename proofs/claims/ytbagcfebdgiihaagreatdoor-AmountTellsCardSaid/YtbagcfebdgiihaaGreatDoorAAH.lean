import Derived.Test.YtbagcfebdgiihaaGreatDoorAAG
import Derived.Lib.LaidTab
import Derived.Test.YtbagcfebdgiihaaGreatDoorProg
noncomputable section
set_option linter.all false
namespace Cx
open Go Go.RowKit
def aX (n:Int):Prop:=-9223372036854775808<=n/\n<=9223372036854775807
def ints (l:List Int):D:=.list (l.map .int)
def ax {n:Int}(h:-9223372036854775808<=n/\n<=9223372036854775807):IntKind.i64.wrap n=n:=by
 simp only[IntKind.wrap,IntKind.signed,IntKind.bits];simp;split<;>omega
def DTy.int_inv {k:IntKind}{d:D}(h:DTy (.int k) d):∃n,d=.v (.int k n)/\k.min<=n/\n<=k.max:=by
 cases h with
 |int k n h1 h2=>exact⟨n,rfl,h1,h2⟩
 |other t d h=>exact h.elim
def DTy.i64_inv {d:D}(h:DTy (.int .i64) d):∃n,d=.int n/\aX n:=by
 obtain⟨n,rfl,h1,h2⟩:=h.int_inv;exact⟨n,rfl,by simpa [IntKind.min,IntKind.max,IntKind.signed,IntKind.bits] using h1,by simpa [IntKind.min,IntKind.max,IntKind.signed,IntKind.bits] using h2⟩
def DTy.bool_inv {d:D}(h:DTy .bool d):∃b,d=.bool b:=by
 cases h with
 |bool b=>exact⟨b,rfl⟩
 |other t d h=>exact h.elim
def DTy.slice_inv {e:Ty}{d:D}(h:DTy (.slice e) d):∃xs,d=.list xs/\xs.length<=maxLen/\∀x,x∈xs->DTy e.unf x:=by
 cases h with
 |slice e xs hm h=>exact⟨xs,rfl,hm,h⟩
 |other t d h=>exact h.elim
def DTy.agg_inv {ts:List Ty}{d:D}(h:DTy (.agg ts) d):∃ds,d=.agg ds/\DTys ts ds:=by
 cases h with
 |agg ts ds h=>exact⟨ds,rfl,h⟩
 |other t d h=>exact h.elim
def DTys.cons_inv {t:Ty}{ts:List Ty}{ds:List D}(h:DTys (t::ts) ds):∃d cO,ds=d::cO/\DTy t d/\DTys ts cO:=by
 cases h with
 |cons h hs=>exact⟨_,_,rfl,h,hs⟩
def DTys.nil_inv {ds:List D}(h:DTys [] ds):ds=[]:=by cases h;rfl
def kP {α:Type}{enc:α->D}{P:α->Prop}{xs:List D}(h:∀x,x∈xs->∃a,x=enc a/\P a):∃l:List α,xs=l.map enc/\∀a,a∈l->P a:=by
 induction xs with
 |nil=>exact⟨[],rfl,λ_ h=>nomatch h⟩
 |cons x xs ih=>
  obtain⟨l,hl,hp⟩:=ih λy hy=>h y (fY _ hy);obtain⟨a,ha,pa⟩:=h x (gy ..)
  exact⟨a::l,by rw[hl,ha];rfl,λb hb=>by
   rcases dG.1 hb with e|hb
   .rw[e];exact pa
   .exact hp b hb⟩
def DTy.ints_inv {d:D}(h:DTy (.slice (.int .i64)) d):∃l:List Int,d=ints l/\l.length<=maxLen/\∀x,x∈l->aX x:=by
 obtain⟨xs,rfl,hm,hx⟩:=h.slice_inv;obtain⟨l,rfl,hl⟩:=kP (enc:=D.int) (P:=aX) λx hh=>(hx x hh).i64_inv;exact⟨l,rfl,by simpa using hm,hl⟩
section
variable (Z:Env) (T:cS)
@[simp] def aLR (t:Nat):PE.ev Z (.r t)=Z.r t:=zyw
@[simp] def aLO (t:Nat):PE.ev Z (.o t)=Z.o t:=zyw
@[simp] def aLz (d:D):PE.ev Z (.con d)=d:=zyw
@[simp] def aLw (e:PE)(i:Nat):PE.ev Z (.cell e i)=(PE.ev Z e).c i:=zyw
@[simp] def aL1 (e:PE)(a n:Nat):PE.ev Z (.sub e a n)=.agg (((PE.ev Z e).cells.drop a).take n):=zyw
@[simp] def aLU (e x:PE)(n:Nat):PE.ev Z (.setc e n x)=.agg (dp (PE.ev Z e).cells n (PE.ev Z x).cells):=zyw
@[simp] def aLH (es:List PE):PE.ev Z (.mk es)=.agg (PE.evc Z es):=zyw
@[simp] def aLr (op:BinOp)(k:IntKind)(x y:PE):PE.ev Z (.ai op k x y)=.v (.int k (bO op k (PE.ev Z x).i (PE.ev Z y).i)):=zyw
@[simp] def aLx (op:BinOp)(x y:PE):PE.ev Z (.ci op x y)=.v (.bool (jm op (PE.ev Z x).i (PE.ev Z y).i)):=zyw
@[simp] def aLv (op:BinOp)(x y:PE):PE.ev Z (.cb op x y)=.v (.bool (zb op (PE.ev Z x).b (PE.ev Z y).b)):=zyw
@[simp] def aLB (op:BinOp)(x y:PE):PE.ev Z (.cs op x y)=.v (.bool (zc op (PE.ev Z x).s (PE.ev Z y).s)):=zyw
@[simp] def aLM (x:PE):PE.ev Z (.nt x)=.v (.bool (!(PE.ev Z x).b)):=zyw
@[simp] def aLA (k:IntKind)(x:PE):PE.ev Z (.conv k x)=.v (.int k (k.wrap (PE.ev Z x).i)):=zyw
@[simp] def aLP (c a b:PE):PE.ev Z (.pick c a b)=if(PE.ev Z c).b=true then PE.ev Z a else PE.ev Z b:=by
  simp only[PE.ev];cases(PE.ev Z c).b<;>rfl
@[simp] def aLI (n:Nat)(e:PE):PE.ev Z (ar n e)=jl n (PE.ev Z e):=arP Z n e
@[simp] def aLu (x:PE):PE.ev Z (.bytes x)=.list ((PE.ev Z x).s.data.toList.map λb=>.v (.int .u8 b.toNat)):=zyw
@[simp] def aLE (x:PE):PE.ev Z (.llen x)=.v (.int .i64 (PE.ev Z x).l.length):=zyw
@[simp] def aLY (x:PE):PE.ev Z (.slen x)=.v (.int .i64 (PE.ev Z x).s.size):=zyw
@[simp] def aLJ (x:PE):PE.ev Z (.mlen x)=.v (.int .i64 (PE.ev Z x).m.length):=zyw
@[simp] def aLN (x i:PE):PE.ev Z (.nth x i)=(PE.ev Z x).l.getD (PE.ev Z i).i.toNat .none:=zyw
@[simp] def aLD (x i:PE):PE.ev Z (.idx x i)=.v (.bool (decide (0<=(PE.ev Z i).i/\(PE.ev Z i).i<(PE.ev Z x).l.length))):=zyw
@[simp] def aLV (x i y:PE)(n:Nat):PE.ev Z (.setn x i n y)=.list ((PE.ev Z x).l.set (PE.ev Z i).i.toNat (tG ((PE.ev Z x).l.getD (PE.ev Z i).i.toNat .none) n (PE.ev Z y))):=zyw
@[simp] def aLt (x y:PE):PE.ev Z (.app x y)=.list ((PE.ev Z x).l++(PE.ev Z y).l):=zyw
@[simp] def aLG (es:List PE):PE.ev Z (.lst es)=.list (PE.evs Z es):=zyw
@[simp] def aLT (x y:PE):PE.ev Z (.rep x y)=.list (List.replicate (PE.ev Z x).i.toNat (PE.ev Z y)):=zyw
@[simp] def aLX (x a b:PE):PE.ev Z (.slc x a b)=.list (((PE.ev Z x).l.take (PE.ev Z b).i.toNat).drop (PE.ev Z a).i.toNat):=zyw
@[simp] def aLZ (x a b:PE):PE.ev Z (.slok x a b)=.v (.bool (decide (0<=(PE.ev Z a).i/\(PE.ev Z a).i<=(PE.ev Z b).i/\(PE.ev Z b).i<=(PE.ev Z x).l.length))):=zyw
@[simp] def aLS (x:PE):PE.ev Z (.ref x)=.ref (PE.ev Z x):=zyw
@[simp] def aLC (x:PE):PE.ev Z (.deref x)=(PE.ev Z x).deref:=zyw
@[simp] def aLF (m k z:PE):PE.ev Z (.look m k z)=(eO (PE.ev Z k) (PE.ev Z m).m).getD (PE.ev Z z):=zyw
@[simp] def aLQ (m k v:PE):PE.ev Z (.put m k v)=.map (ez (PE.ev Z k) (PE.ev Z v) (PE.ev Z m).m):=zyw
@[simp] def aLK (x y:PE):PE.ev Z (.mn x y)=if(PE.ev Z y).i<(PE.ev Z x).i then PE.ev Z y else PE.ev Z x:=by
  simp only[PE.ev];by_cases h:(PE.ev Z y).i<(PE.ev Z x).i<;>simp[h]
@[simp] def aLL (x y:PE):PE.ev Z (.mx x y)=if(PE.ev Z y).i>(PE.ev Z x).i then PE.ev Z y else PE.ev Z x:=by
  simp only[PE.ev];by_cases h:(PE.ev Z y).i>(PE.ev Z x).i<;>simp[h]
@[simp] def aL3 (es:List PE):PE.ev Z (.tup es)=.tup (PE.evs Z es):=zyw
@[simp] def aL2 (x:PE)(i:Nat):PE.ev Z (.tget x i)=(PE.ev Z x).tget i:=zyw
@[simp] def aLy (f:Nat)(es:List PE):PE.ev Z (.clo f es)=.clo f (PE.evs Z es):=zyw
@[simp] def aLs (x y:PE):PE.ev Z (.an x y)=.v (.bool ((PE.ev Z x).b&&(PE.ev Z y).b)):=zyw
@[simp] def aL7:PE.evs Z []=[]:=zyw
@[simp] def aL6 (e:PE)(es:List PE):PE.evs Z (e::es)=PE.ev Z e::PE.evs Z es:=zyw
@[simp] def aL5:PE.evc Z []=[]:=zyw
@[simp] def aL4 (e:PE)(es:List PE):PE.evc Z (e::es)=(PE.ev Z e).cells++PE.evc Z es:=zyw
@[simp] def TB (x:Bool):(D.bool x).b=x:=zyw
@[simp] def aLm (k:IntKind)(n:Int):(D.v (.int k n)).i=n:=zyw
@[simp] def pO (n:Int):(D.int n).i=n:=zyw
@[simp] def aLh (x:List D):(D.list x).l=x:=zyw
@[simp] def aLf (l:List Int):(ints l).l=l.map .int:=zyw
@[simp] def aLi (x:List (D×D)):(D.map x).m=x:=zyw
@[simp] def aK6 (x:List D)(i:Nat):(D.agg x).c i=x.getD i .none:=zyw
@[simp] def aK7 (x:List D):(D.agg x).cells=x:=zyw
@[simp] def aLg (x:List D):(D.list x).cells=[.list x]:=zyw
@[simp] def aLe (x:List Int):(ints x).cells=[ints x]:=zyw
@[simp] def aLb (n:Int):(D.int n).cells=[.int n]:=zyw
@[simp] def aK8 (n:Bool):(D.bool n).cells=[.bool n]:=zyw
@[simp] def aLl (x:Value):(D.v x).cells=[.v x]:=zyw
@[simp] def aLk (x:List D)(i:Nat):(D.tup x).tget i=x.getD i .none:=zyw
@[simp] def aLj (x:D):(D.ref x).deref=x:=zyw
@[simp] def aOf (s:SE)(t:Nat):(s.ev Z).r t=PE.ev Z (s.getR t):=zyw
@[simp] def aOe (s:SE)(t:Nat):(s.ev Z).o t=PE.ev Z (s.getO t):=zyw
@[simp] def aMg (o:List (Nat×PE))(u:Nat):SE.getR ⟨[],o⟩ u=.r u:=zyw
@[simp] def aMf (t:Nat)(e:PE)(r o:List (Nat×PE))(u:Nat):SE.getR ⟨(t,e)::r,o⟩ u=if t=u then e else SE.getR ⟨r,o⟩ u:=by
  simp only[SE.getR,bV];by_cases h:t=u
  .subst h;simp
  .simp[gS h,h]
@[simp] def aMe (r:List (Nat×PE))(u:Nat):SE.getO ⟨r,[]⟩ u=.o u:=zyw
@[simp] def aMd (t:Nat)(e:PE)(r o:List (Nat×PE))(u:Nat):SE.getO ⟨r,(t,e)::o⟩ u=if t=u then e else SE.getO ⟨r,o⟩ u:=by
  simp only[SE.getO,bV];by_cases h:t=u
  .subst h;simp
  .simp[gS h,h]
@[simp] def setR_r (t u:Nat)(d:D):(Z.setR t d).r u=if u=t then d else Z.r u:=Env.setR_r Z t u d
@[simp] def aOl (t u:Nat)(d:D):(Z.setR t d).o u=Z.o u:=zyw
@[simp] def setO_o (t u:Nat)(d:D):(Z.setO t d).o u=if u=t then d else Z.o u:=Env.setO_o Z t u d
@[simp] def aOk (t u:Nat)(d:D):(Z.setO t d).r u=Z.r u:=zyw
@[simp] def aN5 (lr lo:List Nat)(vr vo:List D)(u:Nat):(Z.put lr vr lo vo).r u=putL Z.r lr vr u:=zyw
@[simp] def aN4 (lr lo:List Nat)(vr vo:List D)(u:Nat):(Z.put lr vr lo vo).o u=putL Z.o lo vo u:=zyw
@[simp] def join_r (Z':Env)(lr lo:List Nat)(u:Nat):(Z.join lr lo Z').r u=if u∈lr then Z'.r u else Z.r u:=Env.join_r Z Z' lr lo u
@[simp] def join_o (Z':Env)(lr lo:List Nat)(u:Nat):(Z.join lr lo Z').o u=if u∈lo then Z'.o u else Z.o u:=Env.join_o Z Z' lr lo u
@[simp] def aN2 (f:Nat->D)(i:Nat)(is:List Nat)(x:D)(xs:List D)(u:Nat):putL f (i::is) (x::xs) u=if u=i then x else putL f is xs u:=O6 f i is x xs u
@[simp] def aN3 (f:Nat->D)(xs:List D)(u:Nat):putL f [] xs u=f u:=O7 f xs u
@[simp] def aLo (ds:List D)(u:Nat):(ou ds).r u=ds.getD u .none:=zyw
@[simp] def aMS:holds [] Z=true:=zyw
@[simp] def aMR (g:Nat×Bool)(gs:List (Nat×Bool)):holds (g::gs) Z=((Z.r g.1).b==g.2&&holds gs Z):=zyw
variable (Q:Out->Prop)
@[simp] def aO6 (s:SE):aL T (.next s) Z Q=Q (.next (s.ev Z)):=zyw
@[simp] def aO3 (id:Nat)(s:SE):aL T (.exit id s) Z Q=Q (.exit id (s.ev Z)):=zyw
@[simp] def aO7 (e:PE):aL T (.ret e) Z Q=Q (.ret (e.ev Z)):=zyw
@[simp] def aO2 (e:PE)(k:PT):aL T (.chk e k) Z Q=((e.ev Z).b=true/\aL T k Z Q):=zyw
@[simp] def aO4 (c:PE)(a b:PT):aL T (.ite c a b) Z Q=if(c.ev Z).b=true then aL T a Z Q else aL T b Z Q:=zyw
@[simp] def aO0 (s:SE)(gs:List (Nat×Bool))(dst f:Nat)(args:List PE)(k:PT):aL T (.call s gs dst f args k) Z Q=if holds gs (s.ev Z)=true then ∃d,ah T f (PE.evs Z args) d/\aL T k ((s.ev Z).setR dst d) Q else aL T k (s.ev Z) Q:=zyw
@[simp] def aO5 (s:SE)(c:PE)(lr lo:List Nat)(a b k:PT):aL T (.iteS s c lr lo a b k) Z Q=if(c.ev Z).b=true then aL T a (s.ev Z) (lL (s.ev Z) lr lo (fV (λZ'=>aL T k Z' Q) Q)) else aL T b (s.ev Z) (lL (s.ev Z) lr lo (fV (λZ'=>aL T k Z' Q) Q)):=zyw
@[simp] def aOY (s:SE)(id:Nat)(lr lo:List Nat)(a k:PT):aL T (.blockS s id lr lo a k) Z Q=aL T a (s.ev Z) (mT (s.ev Z) id lr lo (fV (λZ'=>aL T k Z' Q) Q)):=zyw
@[simp] def aOZ (s:SE)(c:PC)(k:PT):aL T (.brk s c k) Z Q=aG T c (s.ev Z) (fV (λZ'=>aL T k Z' Q) Q):=zyw
variable (K:Env->Prop) (id:Nat) (lr lo bN bM:List Nat) (K2:List D->List D->Prop)
@[simp] def aOi (Z':Env):fV K Q (.next Z')=K Z':=zyw
@[simp] def aOh (i:Nat)(Z':Env):fV K Q (.exit i Z')=Q (.exit i Z'):=zyw
@[simp] def aOj (d:D):fV K Q (.ret d)=Q (.ret d):=zyw
@[simp] def aNd (Z':Env):lL Z lr lo Q (.next Z')=Q (.next (Z.join lr lo Z')):=zyw
@[simp] def aNe (d:D):lL Z lr lo Q (.ret d)=Q (.ret d):=zyw
@[simp] def aKO (Z':Env):mT Z id lr lo Q (.next Z')=Q (.next (Z.join lr lo Z')):=zyw
@[simp] def aKN (i:Nat)(Z':Env):mT Z id lr lo Q (.exit i Z')=if i=id then Q (.next (Z.join lr lo Z')) else Q (.exit i Z'):=zyw
@[simp] def aKP (d:D):mT Z id lr lo Q (.ret d)=Q (.ret d):=zyw
@[simp] def aOb (Z':Env):fN Z id bN bM lr lo K2 Q (.next Z')=K2 (lr.map Z'.r) (lo.map Z'.o):=zyw
@[simp] def aOa (i:Nat)(Z':Env):fN Z id bN bM lr lo K2 Q (.exit i Z')=if i=id then Q (.next (Z.put bN (bN.map Z'.r) bM (bM.map Z'.o))) else Q (.exit i Z'):=zyw
@[simp] def aOc (d:D):fN Z id bN bM lr lo K2 Q (.ret d)=Q (.ret d):=zyw
@[simp] def aO1 (s:SE)(gs:List (Nat×Bool))(dst:Nat)(e:PE)(args:List PE)(k:PT):aL T (.callc s gs dst e args k) Z Q=if holds gs (s.ev Z)=true then ∃f caps d,e.ev Z=.clo f caps/\ah T f (PE.evs Z args++caps) d/\aL T k ((s.ev Z).setR dst d) Q else aL T k (s.ev Z) Q:=zyw
@[simp] def aLn (rt:Option PE)(K3:List D->Prop)(i:Nat)(Z':Env):wz Z lo rt K3 Q (.exit i Z')=if i=db then ∃e,rt=some e/\Q (.ret (e.ev (Z.put [] [] lo (lo.map Z'.o)))) else Q (.exit i (Z.put [] [] lo (lo.map Z'.o))):=zyw
@[simp] def aLp (J:Nat)(ds:List D)(u:Nat):(CL J ds).r u=(D.none::ds).getD u .none:=zyw
def arN (J:Nat)(ds:List D)(u:Nat):(CL J ds).o u=if u=J then .list [] else .none:=by
 show(bif Nat.beq u J then D.list [] else .none)=_;by_cases h:u=J
 .subst h;simp
 .simp[gS h,h]
@[simp] def aN0 (p:Nat)(x:D):partsOf [p] x=[x.tget 0]:=zyw
end
section
variable (k:IntKind) (a b:Int)
@[simp] def aKG:bO .add k a b=k.wrap (a+b):=zyw
@[simp] def aKK:bO .sub k a b=k.wrap (a-b):=zyw
@[simp] def aKH:bO .mul k a b=k.wrap (a*b):=zyw
@[simp] def aKI:bO .quo k a b=k.wrap (a.tdiv b):=zyw
@[simp] def aKJ:bO .rem k a b=a.tmod b:=zyw
@[simp] def aKY:jm .eql a b=(a==b):=zyw
@[simp] def aK3:jm .neq a b=(a !=b):=zyw
@[simp] def aK2:jm .lss a b=decide (a<b):=zyw
@[simp] def aK1:jm .leq a b=decide (a<=b):=zyw
@[simp] def aK0:jm .gtr a b=decide (a>b):=zyw
@[simp] def aKZ:jm .geq a b=decide (a>=b):=zyw
variable (x y:Bool)
@[simp] def aKR:zb .eql x y=(x==y):=zyw
@[simp] def aKS:zb .neq x y=(!(x==y)):=zyw
end
def ah.of_tree {tab:Nat->Option PC}{ext:Nat->Option (bf->List D->Option D)}{f:Nat}{pc:PC}{t:PT}{ds:List D}{d:D}(hx:ext f=none)(ht:tab f=some pc)(he:tree pc=t)(h:aL (eE tab ext) t (ou ds) (λx=>x=.ret d)):ah (eE tab ext) f ds d:=
 .of_pc hx ht (Rb (he▸h))
@[simp] def aLd (n:Int):D.v (.int .i64 n)=D.int n:=zyw
@[simp] def aLa (b:Bool):D.v (.bool b)=D.bool b:=zyw
@[simp] def aLc (a b:Int):(D.int a=D.int b)=(a=b):=by
  apply propext;constructor
  .intro h;injection h with h;injection h
  .intro h;rw[h]
@[simp] def aK9 (a b:Bool):(D.bool a=D.bool b)=(a=b):=by
  apply propext;constructor
  .intro h;injection h with h;injection h
  .intro h;rw[h]
section
variable (c:Prop) [Decidable c] (x y:D)
@[simp] def aNb:(if c then x else y).b=if c then x.b else y.b:=by split<;>rfl
@[simp] def aNc:(if c then x else y).i=if c then x.i else y.i:=by split<;>rfl
end
@[simp] def aO8:IntKind.i64.wrap 1=1:=ax (by omega)
@[simp] def aO9:IntKind.i64.wrap 0=0:=ax (by omega)
end Cx
namespace Cx
open Go
inductive Tm where
 |mk (op n:Int) (args:List Tm)
instance:Inhabited Tm:=⟨.mk 0 0 []⟩
namespace Tm
def op:Tm->Int|.mk o _ _=>o
def n:Tm->Int|.mk _ n _=>n
def args:Tm->List Tm|.mk _ _ aa=>aa
end Tm
mutual
def dx:Tm->D
 |.mk o n aa=>.agg [.int o,.int n,.list (M1 aa)]
def M1:List Tm->List D
 |[]=>[]
 |t::ts=>dx t::M1 ts
end
def TL:∀l:List Tm,M1 l=l.map dx
 |[]=>rfl
 |t::l=>by rw[M1,TL l];rfl
def F1 (t:Tm):dx t=.agg [.int t.op,.int t.n,.list (t.args.map dx)]:=by
 cases t with
 |mk o n aa=>rw[dx,TL];rfl
inductive Tm.OK:Tm->Prop where
 |mk (o n:Int) (aa:List Tm) (h1:aX o) (h2:aX n) (h3:aa.length<=maxLen) (h:∀a,a∈aa->Tm.OK a):Tm.OK (.mk o n aa)
def DTy.trm_inv {d:D}(h:DTy .trmA d):∃t:Tm,d=dx t/\t.OK:=by
 suffices hs:∀(m:Nat) (d:D),sizeOf d<=m->DTy .trmA d->∃t:Tm,d=dx t/\t.OK from hs _ d (bL _) h
 intro m
 induction m with
 |zero=>
  intro d hm h;cases d<;>simp at hm
 |succ m ih=>
  intro d hm h;obtain⟨ds,rfl,hs⟩:=DTy.agg_inv h;obtain⟨d1,ds,rfl,h1,hs⟩:=hs.cons_inv;obtain⟨d2,ds,rfl,h2,hs⟩:=hs.cons_inv;obtain⟨d3,ds,rfl,h3,hs⟩:=hs.cons_inv;obtain rfl:=hs.nil_inv;obtain⟨o,rfl,b1⟩:=h1.i64_inv;obtain⟨n,rfl,b2⟩:=h2.i64_inv;obtain⟨xs,rfl,hl,hx⟩:=h3.slice_inv
  obtain⟨l,rfl,aE⟩:=kP (enc:=dx) (P:=Tm.OK) λx hh=>ih x (by
   have:=List.sizeOf_lt_of_mem hh;simp at hm;omega) (hx x hh)
  exact⟨.mk o n l,by rw[dx,TL],.mk o n l b1 b2 (by simpa using hl) aE⟩
def DTy.trms_inv {d:D}(h:DTy (.slice .trm) d):∃l:List Tm,d=.list (l.map dx)/\l.length<=maxLen/\∀t,t∈l->t.OK:=by
 obtain⟨xs,rfl,hl,hx⟩:=h.slice_inv;obtain⟨l,rfl,aE⟩:=kP (enc:=dx) (P:=Tm.OK) λx hh=>DTy.trm_inv (hx x hh);exact⟨l,rfl,by simpa using hl,aE⟩
def Z5 (g:Nat)(zs:List Int):Nat->Option (Ty×D):=λk=>bif Nat.beq k g then some (.agg (zs.map λ_=>.int .i64),.agg (zs.map λz=>.v (.int .i64 z))) else none
def aC4 {C:Ctx}{g:Nat}{zs:List Int}{name:String}{W:World}(hC:C.glob=Z5 g zs)(hg:C.P.globalNamed name=some g)(hz:zs.all (λz=>decide (IntKind.i64.min<=z)&&decide (z<=IntKind.i64.max))=true)
 (h:Lib.TabIs C.P W name .i64 zs):CtxOK C (oQ W):=by
 refine⟨λk x hx=>?_⟩;rw[hC] at hx;unfold Z5 at hx;cases hk:Nat.beq k g<;>simp only[hk,zyv,zyu] at hx
 .cases hx
 cases hx;obtain rfl:=aK hk
 have GX:Rep C.cap (oQ W) (.agg (zs.map λ_=>.int .i64)) (.agg (zs.map λz=>Value.int .i64 z).toArray) (.agg (zs.map λz=>.v (.int .i64 z))):=by
  refine .agg _ _ _ (by simp) (by simp) (λi t ht=>?_) (λi t ht=>?_)
  .rw[dF,aT] at ht;obtain⟨z,Ab,rfl⟩:=ht;rw[bn,bn,dF,dF,Ab];have:=fe.1 hz z (tZ Ab);simp only[aA,decide_eq_true_eq] at this;exact .int _ _ this.1 this.2
  .rw[dF,aT] at ht;obtain⟨z,_,rfl⟩:=ht;rfl
 refine .ref _ k 0 _ _ GX λj u hu=>?_;simp only[Value.cells,JS,dF,aT] at hu;obtain⟨z,Ab,rfl⟩:=hu;have aq:=(jF.1 Ab).1;have:=h.cell hg j aq;show W.cell? ⟨k,0+j,none⟩=_;rw[jh,this,bn,Ab];rfl
end Cx
namespace Cx
open Go Go.RowKit
def loops:PC->List PC
 |.seq a b=>loops a++loops b
 |.ite _ _ _ a b=>loops a++loops b
 |.block id lr lo (.loop VZ VU a)=>loops a++[.block id lr lo (.loop VZ VU a)]
 |.block _ _ _ a=>loops a
 |.loop _ _ a=>loops a
 |.each e ps lo rt a=>loops a++[.each e ps lo rt a]
 |.meach J ps dz lo a=>loops a++[.meach J ps dz lo a]
 |_=>[]
def Th:PC->PC
 |.block _ _ _ (.loop _ _ a)=>a
 |.each _ _ _ _ a=>a
 |.meach _ _ _ _ a=>a
 |_=>.skip
def Og (c:PC)(k:Nat):PC:=(loops c).getD k .skip
def rnd:PC->PT
 |.block id lr lo (.loop VZ VU a)=>round id lr lo VZ VU a
 |.each _ _ lo _ a=>rL lo a
 |.meach _ _ _ lo a=>rL lo a
 |_=>.next .id
inductive Shp where
 |lp (id:Nat) (bN bM lr lo:List Nat)
 |ea (lo:List Nat)
 |no
def Eg:PC->Shp
 |.block id bN bM (.loop lr lo _)=>.lp id bN bM lr lo
 |.each _ _ lo _ _=>.ea lo
 |.meach _ _ _ lo _=>.ea lo
 |_=>.no
def told (c:PC):PT×List (Shp×PT):=(tree c,(loops c).map λl=>(Eg l,rnd l))
def QP {o:Option PC}{t:PT}{l:List (Shp×PT)}(h:o.map told=some (t,l)):o=some (o.getD .skip)/\tree (o.getD .skip)=t/\∀k x,l[k]?=some x->(Eg (Og (o.getD .skip) k),rnd (Og (o.getD .skip) k))=x:=by
 cases o with
 |none=>cases h
 |some c=>
  have h1:told c=(t,l):=by injection h
  unfold told at h1;injection h1 with h1 h2
  refine⟨rfl,h1,λk x hx=>?_⟩;subst h2;simp only[dF,aT] at hx;obtain⟨y,hy,rfl⟩:=hx;have:Og ((some c:Option PC).getD .skip) k=y:=by
   show(loops c).getD k .skip=y;rw[bn,hy];rfl
  rw[this]
def aBQ {c:PC}{id:Nat}{bN bM lr lo:List Nat}{t:PT}(h:(Eg c,rnd c)=(.lp id bN bM lr lo,t)):round id bN bM lr lo (Th c)=t:=by
 injection h with h1 h2
 subst h2;unfold Eg at h1;split at h1
 .cases h1;rfl
 all_goals cases h1
def arx {c:PC}{lo:List Nat}{t:PT}(h:(Eg c,rnd c)=(.ea lo,t)):rL lo (Th c)=t:=by
 injection h with h1 h2
 subst h2;unfold Eg at h1;split at h1
 .cases h1
 .cases h1;rfl
 .cases h1;rfl
 .cases h1
def cU {α:Type}(x:α):α:=Classical.choose (⟨x,rfl⟩:∃y,y=x)
def GB {α:Type}(x:α):cU x=x:=Classical.choose_spec (⟨x,rfl⟩:∃y,y=x)
def aU (o:Option PC):Nat->PC:=λk=>Th (Og (o.getD .skip) k)
abbrev ab (o:Option PC):PC:=cU (o.getD .skip)
abbrev aV (o:Option PC):Nat->PC:=cU (aU o)
section
variable {o:Option PC} {F:(Nat->PC)->PT×List (Shp×PT)}
def aDk (h:o.map told=some (F (aU o))):o=some (ab o):=by unfold ab;rw[GB];exact(QP (t:=(F (aU o)).1) (l:=(F (aU o)).2) h).1
def bk (h:o.map told=some (F (aU o))):tree (ab o)=(F (aV o)).1:=by unfold ab aV;rw[GB,GB];exact(QP (t:=(F (aU o)).1) (l:=(F (aU o)).2) h).2.1
def aQ (h:o.map told=some (F (aU o)))(k:Nat){id:Nat}{bN bM lr lo:List Nat}{t:(Nat->PC)->PT}(hk:∀b,(F b).2[k]?=some (.lp id bN bM lr lo,t b)):round id bN bM lr lo (aV o k)=t (aV o):=by
 unfold aV;rw[GB];exact aBQ ((QP (t:=(F (aU o)).1) (l:=(F (aU o)).2) h).2.2 k _ (hk _))
def aab (h:o.map told=some (F (aU o)))(k:Nat){lo:List Nat}{t:(Nat->PC)->PT}(hk:∀b,(F b).2[k]?=some (.ea lo,t b)):rL lo (aV o k)=t (aV o):=by
 unfold aV;rw[GB];exact arx ((QP (t:=(F (aU o)).1) (l:=(F (aU o)).2) h).2.2 k _ (hk _))
end
def av {α:Type}{R:Nat->α->Prop}{f:Nat}{x:α}{l:List (Nat×α)}(h:R f x)(k:JJ R l):JJ R ((f,x)::l):=⟨h,k⟩
def aie {α:Type}:∀{l:List (Nat×α)},(l.map (·.1)).Nodup->∀{k f:Nat} {x:α},l[k]?=some (f,x)->bV l f=some x
 |[],_,k,f,x,h=>by simp at h
 |y::l,hn,0,f,x,h=>by
  simp only[Rx,bx] at h;subst h;simp[bV]
 |y::l,hn,k+1,f,x,h=>by
  simp only[aec] at h;rw[j6,vQ] at hn;have hm:f∈l.map (·.1):=fF.2 ⟨(f,x),tZ h,rfl⟩;have hb:Nat.beq y.1 f=false:=by
   cases e:Nat.beq y.1 f with
   |false=>rfl
   |true=>rw[dP e] at hn;exact absurd hm hn.1
  simp only[bV,hb,zyu];exact aie hn.2 h
abbrev pT:PE:=.con (.bool true)
abbrev pF:PE:=.con (.bool false)
abbrev pN:PE:=.con .none
abbrev pL:PE:=.con (.list [])
abbrev pi (n:Int):PE:=.con (.int n)
abbrev ay (a b:PE):PE:=.ai .add .i64 a b
abbrev aO (a b:PE):PE:=.ai .sub .i64 a b
abbrev ae (a b:PE):PE:=.ci .eql a b
abbrev aC (a b:PE):PE:=.ci .neq a b
abbrev aj (a b:PE):PE:=.ci .lss a b
abbrev aY (a b:PE):PE:=.ci .leq a b
abbrev aS (a b:PE):PE:=.ci .gtr a b
abbrev aN (a b:PE):PE:=.ci .geq a b
abbrev pc (a:PE)(i:Nat):PE:=.cell a i
abbrev pn (a b:PE):PE:=.nth a b
abbrev ao (a b:PE):PE:=.idx a b
abbrev z2:PE:=.con (.agg [(.int 0),(.int 0)])
abbrev z3:PE:=.con (.agg [(.int 0),(.int 0),(.int 0)])
abbrev z4:PE:=.con (.agg [(.int 0),(.int 0),(.int 0),(.int 0)])
abbrev z5:PE:=.con (.agg [(.int 0),(.int 0),(.int 0),(.int 0),(.int 0)])
abbrev z6:PE:=.con (.agg [(.int 0),(.int 0),(.int 0),(.int 0),(.int 0),(.int 0)])
abbrev z7:PE:=.con (.agg [(.int 0),(.int 0),(.int 0),(.int 0),(.int 0),(.int 0),(.int 0)])
abbrev z9:PE:=.con (.agg [(.int 0),(.int 0),(.int 0),(.int 0),(.int 0),(.int 0),(.int 0),(.int 0),(.int 0)])
abbrev Ri:PE:=.con (.agg [(.int 0),(.int 0),(.int 0),(.int 0),(.int 0),(.int 0),(.int 0),(.int 0),(.int 0),(.int 0),(.int 0),(.int 0),(.int 0),(.int 0),(.int 0)])
abbrev r0:PE:=.r 0
abbrev r1:PE:=.r 1
abbrev r2:PE:=.r 2
abbrev r3:PE:=.r 3
abbrev r4:PE:=.r 4
abbrev r5:PE:=.r 5
abbrev r6:PE:=.r 6
abbrev r7:PE:=.r 7
abbrev r8:PE:=.r 8
abbrev r9:PE:=.r 9
abbrev aZ:PE:=.r 10
abbrev bJ:PE:=.r 11
abbrev bK:PE:=.r 12
abbrev cK:PE:=.r 13
abbrev cn:PE:=.r 14
abbrev bZ:PE:=.r 15
abbrev cq:PE:=.r 16
abbrev dR:PE:=.r 17
abbrev cR:PE:=.r 18
abbrev gK:PE:=.r 19
abbrev dt:PE:=.r 20
abbrev fE:PE:=.r 21
abbrev jB:PE:=.r 22
abbrev fa:PE:=.r 23
abbrev mD:PE:=.r 24
abbrev dZ:PE:=.r 25
abbrev lU:PE:=.r 26
abbrev eP:PE:=.r 27
abbrev mE:PE:=.r 28
abbrev lV:PE:=.r 29
abbrev jC:PE:=.r 30
abbrev g9:PE:=.r 31
abbrev ku:PE:=.r 32
abbrev py:PE:=.r 33
abbrev qs:PE:=.r 34
abbrev hH:PE:=.r 35
abbrev fM:PE:=.r 36
abbrev kW:PE:=.r 37
abbrev jW:PE:=.r 38
abbrev tn:PE:=.r 39
abbrev nv:PE:=.r 40
abbrev mF:PE:=.r 41
abbrev Yj:PE:=.r 42
abbrev rC:PE:=.r 43
abbrev rD:PE:=.r 44
abbrev mG:PE:=.r 45
abbrev xX:PE:=.r 46
abbrev PA:PE:=.r 47
abbrev hZ:PE:=.r 48
abbrev jD:PE:=.r 49
abbrev nw:PE:=.r 50
abbrev qt:PE:=.r 51
abbrev vw:PE:=.r 52
abbrev Yk:PE:=.r 53
abbrev rE:PE:=.r 54
abbrev tp:PE:=.r 55
abbrev tq:PE:=.r 56
abbrev vz:PE:=.r 57
abbrev ny:PE:=.r 58
abbrev nz:PE:=.r 59
abbrev rF:PE:=.r 60
abbrev DX:PE:=.r 61
abbrev jc:PE:=.r 62
abbrev DY:PE:=.r 63
abbrev kX:PE:=.r 64
abbrev lW:PE:=.r 65
abbrev PB:PE:=.r 66
abbrev tu:PE:=.r 67
abbrev PD:PE:=.r 68
abbrev tw:PE:=.r 69
abbrev r70:PE:=.r 70
abbrev AI:PE:=.r 72
abbrev rG:PE:=.r 73
abbrev Yl:PE:=.r 74
abbrev H6:PE:=.r 75
abbrev vA:PE:=.r 76
abbrev Ym:PE:=.r 77
abbrev r78:PE:=.r 78
abbrev r79:PE:=.r 79
abbrev tz:PE:=.r 80
abbrev vB:PE:=.r 81
abbrev kY:PE:=.r 82
abbrev r84:PE:=.r 84
abbrev H7:PE:=.r 85
abbrev Yn:PE:=.r 86
abbrev r87:PE:=.r 87
abbrev rH:PE:=.r 88
abbrev r89:PE:=.r 89
abbrev H8:PE:=.r 90
abbrev r91:PE:=.r 91
abbrev Yo:PE:=.r 92
abbrev PF:PE:=.r 93
abbrev r94:PE:=.r 94
abbrev r95:PE:=.r 95
abbrev PG:PE:=.r 96
abbrev Yp:PE:=.r 97
abbrev r98:PE:=.r 98
abbrev Yq:PE:=.r 99
abbrev X8:PE:=.r 103
abbrev ame:PE:=.r 104
abbrev X9:PE:=.r 106
abbrev H3:PE:=.r 108
abbrev aA7:PE:=.r 109
abbrev aA8:PE:=.r 111
abbrev H4:PE:=.r 112
abbrev amf:PE:=.r 113
abbrev Px:PE:=.r 114
abbrev amg:PE:=.r 115
abbrev AH:PE:=.r 116
abbrev amh:PE:=.r 119
abbrev Ya:PE:=.r 120
abbrev aBd:PE:=.r 121
abbrev amj:PE:=.r 126
abbrev Yb:PE:=.r 127
abbrev o0:PE:=.o 0
abbrev o1:PE:=.o 1
abbrev o2:PE:=.o 2
abbrev o3:PE:=.o 3
abbrev o4:PE:=.o 4
abbrev o5:PE:=.o 5
abbrev o6:PE:=.o 6
abbrev o7:PE:=.o 7
abbrev o8:PE:=.o 8
abbrev o9:PE:=.o 9
abbrev bP:PE:=.o 10
abbrev dK:PE:=.o 11
abbrev Oz:PE:=.o 12
abbrev kp:PE:=.o 13
abbrev lO:PE:=.o 14
abbrev DJ:PE:=.o 16
abbrev rp:PE:=.o 17
abbrev DK:PE:=.o 45
end Cx
namespace Rm
open Go Cx
abbrev str (b:ByteArray):D:=.v (.string b)
def strs (l:List ByteArray):D:=.list (l.map str)
@[simp] def aCX (l:List ByteArray):(strs l).l=l.map str:=zyw
def str_inv {d:D}(h:DTy .str d):∃b,d=str b:=by
 cases h with
 |str b=>exact⟨b,rfl⟩
 |other t d h=>exact h.elim
def aCW {d:D}(h:DTy (.slice .str) d):∃l:List ByteArray,d=strs l/\l.length<=maxLen:=by
 obtain⟨xs,rfl,hm,hx⟩:=h.slice_inv;obtain⟨l,rfl,hl⟩:=kP (enc:=str) (P:=λ_=>True) λx hh=>(str_inv (hx x hh)).imp λb hb=>⟨hb,trivial⟩
 exact⟨l,rfl,by simpa using hm⟩
@[simp] def aJK (t:Tm):(dx t).cells=[.int t.op,.int t.n,.list (t.args.map dx)]:=by rw[F1];rfl
@[simp] def aJL (t:Tm):D.agg [.int t.op,.int t.n,.list (t.args.map dx)]=dx t:=(F1 t).symm
@[simp] def aJH (t:Tm):(dx t).c 0=.int t.op:=by rw[F1];rfl
@[simp] def aJI (t:Tm):(dx t).c 1=.int t.n:=by rw[F1];rfl
@[simp] def aJJ (t:Tm):(dx t).c 2=.list (t.args.map dx):=by rw[F1];rfl
structure City where
 name:ByteArray
 order:Int
 currency:Int
 rest:List Int
 feasts:List Int
 shut:List Int
 deriving Inhabited
def ga (x:City):D:=.agg [str x.name,.int x.order,.int x.currency,ints x.rest,ints x.feasts,ints x.shut]
@[simp] def aIs (x:City):(ga x).cells=[str x.name,.int x.order,.int x.currency,ints x.rest,ints x.feasts,ints x.shut]:=zyw
@[simp] def aNu (x:City):D.agg [str x.name,.int x.order,.int x.currency,ints x.rest,ints x.feasts,ints x.shut]=ga x:=zyw
@[simp] def aKt (x:City):jl 6 (ga x)=ga x:=zyw
@[simp] def aIm (x:City):(ga x).c 0=str x.name:=zyw
@[simp] def aIn (x:City):(ga x).c 1=.int x.order:=zyw
@[simp] def aIo (x:City):(ga x).c 2=.int x.currency:=zyw
@[simp] def aIp (x:City):(ga x).c 3=ints x.rest:=zyw
@[simp] def aIq (x:City):(ga x).c 4=ints x.feasts:=zyw
@[simp] def aIr (x:City):(ga x).c 5=ints x.shut:=zyw
def pM (l:List City):D:=.list (l.map ga)
@[simp] def aKX (l:List City):(pM l).l=l.map ga:=zyw
abbrev adA:Ty:=.agg [.str,.int .i64,.int .i64,.slice (.int .i64),.slice (.int .i64),.slice (.int .i64)]
def City.OK (x:City):Prop:=aX x.order/\aX x.currency/\(x.rest.length<=maxLen/\∀y,y∈x.rest->aX y)/\(x.feasts.length<=maxLen/\∀y,y∈x.feasts->aX y)/\(x.shut.length<=maxLen/\∀y,y∈x.shut->aX y)
def aqn {d:D}(h:DTy adA d):∃x:City,d=ga x/\x.OK:=by
 obtain⟨ds,rfl,hs⟩:=h.agg_inv;obtain⟨d0,ds,rfl,h0,hs⟩:=hs.cons_inv;obtain⟨d1,ds,rfl,h1,hs⟩:=hs.cons_inv;obtain⟨d2,ds,rfl,h2,hs⟩:=hs.cons_inv;obtain⟨d3,ds,rfl,h3,hs⟩:=hs.cons_inv;obtain⟨d4,ds,rfl,h4,hs⟩:=hs.cons_inv;obtain⟨d5,ds,rfl,h5,hs⟩:=hs.cons_inv;obtain rfl:=hs.nil_inv;obtain⟨n0,rfl⟩:=str_inv h0;obtain⟨n1,rfl,b1⟩:=h1.i64_inv;obtain⟨n2,rfl,b2⟩:=h2.i64_inv;obtain⟨n3,rfl,b3,c3⟩:=h3.ints_inv;obtain⟨n4,rfl,b4,c4⟩:=h4.ints_inv;obtain⟨n5,rfl,b5,c5⟩:=h5.ints_inv;exact⟨⟨n0,n1,n2,n3,n4,n5⟩,rfl,⟨b1,b2,⟨b3,c3⟩,⟨b4,c4⟩,⟨b5,c5⟩⟩⟩
def aqp {d:D}(h:DTy (.slice adA) d):∃l:List City,d=pM l/\l.length<=maxLen/\∀y,y∈l->City.OK y:=by
 obtain⟨xs,rfl,hm,hx⟩:=h.slice_inv;obtain⟨l,rfl,hl⟩:=kP (enc:=ga) (P:=City.OK) λx hh=>aqn (hx x hh);exact⟨l,rfl,by simpa using hm,hl⟩
structure Firm where
 name:ByteArray
 city:Int
 group:Int
 deriving Inhabited
def uw (x:Firm):D:=.agg [str x.name,.int x.city,.int x.group]
@[simp] def aIR (x:Firm):(uw x).cells=[str x.name,.int x.city,.int x.group]:=zyw
@[simp] def aNy (x:Firm):D.agg [str x.name,.int x.city,.int x.group]=uw x:=zyw
@[simp] def aIO (x:Firm):(uw x).c 0=str x.name:=zyw
@[simp] def aIP (x:Firm):(uw x).c 1=.int x.city:=zyw
@[simp] def aIQ (x:Firm):(uw x).c 2=.int x.group:=zyw
def firms (l:List Firm):D:=.list (l.map uw)
@[simp] def aMb (l:List Firm):(firms l).l=l.map uw:=zyw
abbrev adC:Ty:=.agg [.str,.int .i64,.int .i64]
def Firm.OK (x:Firm):Prop:=aX x.city/\aX x.group
def ar4 {d:D}(h:DTy adC d):∃x:Firm,d=uw x/\x.OK:=by
 obtain⟨ds,rfl,hs⟩:=h.agg_inv;obtain⟨d0,ds,rfl,h0,hs⟩:=hs.cons_inv;obtain⟨d1,ds,rfl,h1,hs⟩:=hs.cons_inv;obtain⟨d2,ds,rfl,h2,hs⟩:=hs.cons_inv;obtain rfl:=hs.nil_inv;obtain⟨n0,rfl⟩:=str_inv h0;obtain⟨n1,rfl,b1⟩:=h1.i64_inv;obtain⟨n2,rfl,b2⟩:=h2.i64_inv;exact⟨⟨n0,n1,n2⟩,rfl,⟨b1,b2⟩⟩
def ar5 {d:D}(h:DTy (.slice adC) d):∃l:List Firm,d=firms l/\l.length<=maxLen/\∀y,y∈l->Firm.OK y:=by
 obtain⟨xs,rfl,hm,hx⟩:=h.slice_inv;obtain⟨l,rfl,hl⟩:=kP (enc:=uw) (P:=Firm.OK) λx hh=>ar4 (hx x hh);exact⟨l,rfl,by simpa using hm,hl⟩
structure Group where
 grade:Int
 deriving DecidableEq,Inhabited
def zg (x:Group):D:=.agg [.int x.grade]
@[simp] def aIT (x:Group):(zg x).cells=[.int x.grade]:=zyw
@[simp] def aNz (x:Group):D.agg [.int x.grade]=zg x:=zyw
@[simp] def aIS (x:Group):(zg x).c 0=.int x.grade:=zyw
def groups (l:List Group):D:=.list (l.map zg)
@[simp] def aMj (l:List Group):(groups l).l=l.map zg:=zyw
abbrev adD:Ty:=.agg [.int .i64]
def Group.OK (x:Group):Prop:=aX x.grade
def atL {d:D}(h:DTy adD d):∃x:Group,d=zg x/\x.OK:=by
 obtain⟨ds,rfl,hs⟩:=h.agg_inv;obtain⟨d0,ds,rfl,h0,hs⟩:=hs.cons_inv;obtain rfl:=hs.nil_inv;obtain⟨n0,rfl,b0⟩:=h0.i64_inv;exact⟨⟨n0⟩,rfl,b0⟩
def atM {d:D}(h:DTy (.slice adD) d):∃l:List Group,d=groups l/\l.length<=maxLen/\∀y,y∈l->Group.OK y:=by
 obtain⟨xs,rfl,hm,hx⟩:=h.slice_inv;obtain⟨l,rfl,hl⟩:=kP (enc:=zg) (P:=Group.OK) λx hh=>atL (hx x hh);exact⟨l,rfl,by simpa using hm,hl⟩
structure Usance where
 fr:Int
 to:Int
 days:Int
 deriving DecidableEq,Inhabited
def uz (x:Usance):D:=.agg [.int x.fr,.int x.to,.int x.days]
@[simp] def aJU (x:Usance):(uz x).cells=[.int x.fr,.int x.to,.int x.days]:=zyw
@[simp] def aNK (x:Usance):D.agg [.int x.fr,.int x.to,.int x.days]=uz x:=zyw
@[simp] def aJR (x:Usance):(uz x).c 0=.int x.fr:=zyw
@[simp] def aJS (x:Usance):(uz x).c 1=.int x.to:=zyw
@[simp] def aJT (x:Usance):(uz x).c 2=.int x.days:=zyw
def usances (l:List Usance):D:=.list (l.map uz)
@[simp] def aOS (l:List Usance):(usances l).l=l.map uz:=zyw
abbrev adJ:Ty:=.agg [.int .i64,.int .i64,.int .i64]
def Usance.OK (x:Usance):Prop:=aX x.fr/\aX x.to/\aX x.days
def aG8 {d:D}(h:DTy adJ d):∃x:Usance,d=uz x/\x.OK:=by
 obtain⟨ds,rfl,hs⟩:=h.agg_inv;obtain⟨d0,ds,rfl,h0,hs⟩:=hs.cons_inv;obtain⟨d1,ds,rfl,h1,hs⟩:=hs.cons_inv;obtain⟨d2,ds,rfl,h2,hs⟩:=hs.cons_inv;obtain rfl:=hs.nil_inv;obtain⟨n0,rfl,b0⟩:=h0.i64_inv;obtain⟨n1,rfl,b1⟩:=h1.i64_inv;obtain⟨n2,rfl,b2⟩:=h2.i64_inv;exact⟨⟨n0,n1,n2⟩,rfl,⟨b0,b1,b2⟩⟩
def aG9 {d:D}(h:DTy (.slice adJ) d):∃l:List Usance,d=usances l/\l.length<=maxLen/\∀y,y∈l->Usance.OK y:=by
 obtain⟨xs,rfl,hm,hx⟩:=h.slice_inv;obtain⟨l,rfl,hl⟩:=kP (enc:=uz) (P:=Usance.OK) λx hh=>aG8 (hx x hh);exact⟨l,rfl,by simpa using hm,hl⟩
structure Rate where
 fr:Int
 to:Int
 num:Int
 den:Int
 since:Int
 deriving DecidableEq,Inhabited
def qQ (x:Rate):D:=.agg [.int x.fr,.int x.to,.int x.num,.int x.den,.int x.since]
@[simp] def aJg (x:Rate):(qQ x).cells=[.int x.fr,.int x.to,.int x.num,.int x.den,.int x.since]:=zyw
@[simp] def aND (x:Rate):D.agg [.int x.fr,.int x.to,.int x.num,.int x.den,.int x.since]=qQ x:=zyw
@[simp] def aJb (x:Rate):(qQ x).c 0=.int x.fr:=zyw
@[simp] def aJc (x:Rate):(qQ x).c 1=.int x.to:=zyw
@[simp] def aJd (x:Rate):(qQ x).c 2=.int x.num:=zyw
@[simp] def aJe (x:Rate):(qQ x).c 3=.int x.den:=zyw
@[simp] def aJf (x:Rate):(qQ x).c 4=.int x.since:=zyw
def rates (l:List Rate):D:=.list (l.map qQ)
@[simp] def aN6 (l:List Rate):(rates l).l=l.map qQ:=zyw
abbrev adG:Ty:=.agg [.int .i64,.int .i64,.int .i64,.int .i64,.int .i64]
def Rate.OK (x:Rate):Prop:=aX x.fr/\aX x.to/\aX x.num/\aX x.den/\aX x.since
def aBL {d:D}(h:DTy adG d):∃x:Rate,d=qQ x/\x.OK:=by
 obtain⟨ds,rfl,hs⟩:=h.agg_inv;obtain⟨d0,ds,rfl,h0,hs⟩:=hs.cons_inv;obtain⟨d1,ds,rfl,h1,hs⟩:=hs.cons_inv;obtain⟨d2,ds,rfl,h2,hs⟩:=hs.cons_inv;obtain⟨d3,ds,rfl,h3,hs⟩:=hs.cons_inv;obtain⟨d4,ds,rfl,h4,hs⟩:=hs.cons_inv;obtain rfl:=hs.nil_inv;obtain⟨n0,rfl,b0⟩:=h0.i64_inv;obtain⟨n1,rfl,b1⟩:=h1.i64_inv;obtain⟨n2,rfl,b2⟩:=h2.i64_inv;obtain⟨n3,rfl,b3⟩:=h3.i64_inv;obtain⟨n4,rfl,b4⟩:=h4.i64_inv;exact⟨⟨n0,n1,n2,n3,n4⟩,rfl,⟨b0,b1,b2,b3,b4⟩⟩
def aBM {d:D}(h:DTy (.slice adG) d):∃l:List Rate,d=rates l/\l.length<=maxLen/\∀y,y∈l->Rate.OK y:=by
 obtain⟨xs,rfl,hm,hx⟩:=h.slice_inv;obtain⟨l,rfl,hl⟩:=kP (enc:=qQ) (P:=Rate.OK) λx hh=>aBL (hx x hh);exact⟨l,rfl,by simpa using hm,hl⟩
structure Halt where
 order:Int
 fr:Int
 to:Int
 deriving DecidableEq,Inhabited
def ux (x:Halt):D:=.agg [.int x.order,.int x.fr,.int x.to]
@[simp] def aIX (x:Halt):(ux x).cells=[.int x.order,.int x.fr,.int x.to]:=zyw
@[simp] def aNA (x:Halt):D.agg [.int x.order,.int x.fr,.int x.to]=ux x:=zyw
@[simp] def aIU (x:Halt):(ux x).c 0=.int x.order:=zyw
@[simp] def aIV (x:Halt):(ux x).c 1=.int x.fr:=zyw
@[simp] def aIW (x:Halt):(ux x).c 2=.int x.to:=zyw
def halts (l:List Halt):D:=.list (l.map ux)
@[simp] def aMw (l:List Halt):(halts l).l=l.map ux:=zyw
abbrev adE:Ty:=.agg [.int .i64,.int .i64,.int .i64]
def Halt.OK (x:Halt):Prop:=aX x.order/\aX x.fr/\aX x.to
def aug {d:D}(h:DTy adE d):∃x:Halt,d=ux x/\x.OK:=by
 obtain⟨ds,rfl,hs⟩:=h.agg_inv;obtain⟨d0,ds,rfl,h0,hs⟩:=hs.cons_inv;obtain⟨d1,ds,rfl,h1,hs⟩:=hs.cons_inv;obtain⟨d2,ds,rfl,h2,hs⟩:=hs.cons_inv;obtain rfl:=hs.nil_inv;obtain⟨n0,rfl,b0⟩:=h0.i64_inv;obtain⟨n1,rfl,b1⟩:=h1.i64_inv;obtain⟨n2,rfl,b2⟩:=h2.i64_inv;exact⟨⟨n0,n1,n2⟩,rfl,⟨b0,b1,b2⟩⟩
def auh {d:D}(h:DTy (.slice adE) d):∃l:List Halt,d=halts l/\l.length<=maxLen/\∀y,y∈l->Halt.OK y:=by
 obtain⟨xs,rfl,hm,hx⟩:=h.slice_inv;obtain⟨l,rfl,hl⟩:=kP (enc:=ux) (P:=Halt.OK) λx hh=>aug (hx x hh);exact⟨l,rfl,by simpa using hm,hl⟩
structure Choice where
 ask:Int
 by_:Int
 whole:Bool
 deriving DecidableEq,Inhabited
def ur (x:Choice):D:=.agg [.int x.ask,.int x.by_,.bool x.whole]
@[simp] def aIl (x:Choice):(ur x).cells=[.int x.ask,.int x.by_,.bool x.whole]:=zyw
@[simp] def aNt (x:Choice):D.agg [.int x.ask,.int x.by_,.bool x.whole]=ur x:=zyw
@[simp] def aIj (x:Choice):(ur x).c 0=.int x.ask:=zyw
@[simp] def aIk (x:Choice):(ur x).c 1=.int x.by_:=zyw
def choices (l:List Choice):D:=.list (l.map ur)
@[simp] def aKW (l:List Choice):(choices l).l=l.map ur:=zyw
abbrev adz:Ty:=.agg [.int .i64,.int .i64,.bool]
def Choice.OK (x:Choice):Prop:=aX x.ask/\aX x.by_
def aqk {d:D}(h:DTy adz d):∃x:Choice,d=ur x/\x.OK:=by
 obtain⟨ds,rfl,hs⟩:=h.agg_inv;obtain⟨d0,ds,rfl,h0,hs⟩:=hs.cons_inv;obtain⟨d1,ds,rfl,h1,hs⟩:=hs.cons_inv;obtain⟨d2,ds,rfl,h2,hs⟩:=hs.cons_inv;obtain rfl:=hs.nil_inv;obtain⟨n0,rfl,b0⟩:=h0.i64_inv;obtain⟨n1,rfl,b1⟩:=h1.i64_inv;obtain⟨n2,rfl⟩:=h2.bool_inv;exact⟨⟨n0,n1,n2⟩,rfl,⟨b0,b1⟩⟩
def aql {d:D}(h:DTy (.slice adz) d):∃l:List Choice,d=choices l/\l.length<=maxLen/\∀y,y∈l->Choice.OK y:=by
 obtain⟨xs,rfl,hm,hx⟩:=h.slice_inv;obtain⟨l,rfl,hl⟩:=kP (enc:=ur) (P:=Choice.OK) λx hh=>aqk (hx x hh);exact⟨l,rfl,by simpa using hm,hl⟩
structure Rule where
 ask:Int
 term:Tm
 deriving Inhabited
def uy (x:Rule):D:=.agg [.int x.ask,.int x.term.op,.int x.term.n,.list (x.term.args.map dx)]
@[simp] def aJr (x:Rule):(uy x).cells=[.int x.ask,.int x.term.op,.int x.term.n,.list (x.term.args.map dx)]:=zyw
@[simp] def aNF (x:Rule):D.agg [.int x.ask,.int x.term.op,.int x.term.n,.list (x.term.args.map dx)]=uy x:=zyw
@[simp] def aJq (x:Rule):(uy x).c 0=.int x.ask:=zyw
def rules (l:List Rule):D:=.list (l.map uy)
@[simp] def aOd (l:List Rule):(rules l).l=l.map uy:=zyw
abbrev adH:Ty:=.agg [.int .i64,.int .i64,.int .i64,.slice .trm]
def Rule.OK (x:Rule):Prop:=aX x.ask/\Tm.OK x.term
def aCi {d:D}(h:DTy adH d):∃x:Rule,d=uy x/\x.OK:=by
 obtain⟨ds,rfl,hs⟩:=h.agg_inv;obtain⟨d0,ds,rfl,h0,hs⟩:=hs.cons_inv;obtain⟨d1,ds,rfl,h1,hs⟩:=hs.cons_inv;obtain⟨d2,ds,rfl,h2,hs⟩:=hs.cons_inv;obtain⟨d3,ds,rfl,h3,hs⟩:=hs.cons_inv;obtain rfl:=hs.nil_inv;obtain⟨n0,rfl,b0⟩:=h0.i64_inv;obtain⟨n1,rfl,b1⟩:=h1.i64_inv;obtain⟨n2,rfl,b2⟩:=h2.i64_inv;obtain⟨n3,rfl,b3,c3⟩:=h3.trms_inv;exact⟨⟨n0,.mk n1 n2 n3⟩,rfl,⟨b0,.mk _ _ _ b1 b2 b3 c3⟩⟩
def aCj {d:D}(h:DTy (.slice adH) d):∃l:List Rule,d=rules l/\l.length<=maxLen/\∀y,y∈l->Rule.OK y:=by
 obtain⟨xs,rfl,hm,hx⟩:=h.slice_inv;obtain⟨l,rfl,hl⟩:=kP (enc:=uy) (P:=Rule.OK) λx hh=>aCi (hx x hh);exact⟨l,rfl,by simpa using hm,hl⟩
structure Order where
 name:ByteArray
 accepts:Bool
 choices:List Choice
 rules:List Rule
 deriving Inhabited
def iu (x:Order):D:=.agg [str x.name,.bool x.accepts,choices x.choices,rules x.rules]
@[simp] def aI2 (x:Order):(iu x).cells=[str x.name,.bool x.accepts,choices x.choices,rules x.rules]:=zyw
@[simp] def aNB (x:Order):D.agg [str x.name,.bool x.accepts,choices x.choices,rules x.rules]=iu x:=zyw
@[simp] def aKw (x:Order):jl 4 (iu x)=iu x:=zyw
@[simp] def aIY (x:Order):(iu x).c 0=str x.name:=zyw
@[simp] def aIZ (x:Order):(iu x).c 1=.bool x.accepts:=zyw
@[simp] def aI0 (x:Order):(iu x).c 2=choices x.choices:=zyw
@[simp] def aI1 (x:Order):(iu x).c 3=rules x.rules:=zyw
def orders (l:List Order):D:=.list (l.map iu)
@[simp] def aNR (l:List Order):(orders l).l=l.map iu:=zyw
abbrev adF:Ty:=.agg [.str,.bool,.slice adz,.slice adH]
def Order.OK (x:Order):Prop:=(x.choices.length<=maxLen/\∀y,y∈x.choices->Choice.OK y)/\(x.rules.length<=maxLen/\∀y,y∈x.rules->Rule.OK y)
def aAi {d:D}(h:DTy adF d):∃x:Order,d=iu x/\x.OK:=by
 obtain⟨ds,rfl,hs⟩:=h.agg_inv;obtain⟨d0,ds,rfl,h0,hs⟩:=hs.cons_inv;obtain⟨d1,ds,rfl,h1,hs⟩:=hs.cons_inv;obtain⟨d2,ds,rfl,h2,hs⟩:=hs.cons_inv;obtain⟨d3,ds,rfl,h3,hs⟩:=hs.cons_inv;obtain rfl:=hs.nil_inv;obtain⟨n0,rfl⟩:=str_inv h0;obtain⟨n1,rfl⟩:=h1.bool_inv;obtain⟨n2,rfl,b2,c2⟩:=aql h2;obtain⟨n3,rfl,b3,c3⟩:=aCj h3;exact⟨⟨n0,n1,n2,n3⟩,rfl,⟨⟨b2,c2⟩,⟨b3,c3⟩⟩⟩
def aAj {d:D}(h:DTy (.slice adF) d):∃l:List Order,d=orders l/\l.length<=maxLen/\∀y,y∈l->Order.OK y:=by
 obtain⟨xs,rfl,hm,hx⟩:=h.slice_inv;obtain⟨l,rfl,hl⟩:=kP (enc:=iu) (P:=Order.OK) λx hh=>aAi (hx x hh);exact⟨l,rfl,by simpa using hm,hl⟩
structure Realm where
 currencies:List ByteArray
 cities:List City
 groups:List Group
 firms:List Firm
 orders:List Order
 usances:List Usance
 rates:List Rate
 halts:List Halt
 deriving Inhabited
abbrev zzy (x:Realm):List D:=[strs x.currencies,pM x.cities,groups x.groups,firms x.firms,orders x.orders,usances x.usances,rates x.rates,halts x.halts]
def aR (x:Realm):D:=.agg (zzy x)
@[simp] def aJp (x:Realm):(aR x).cells=(zzy x):=zyw
@[simp] def aNE (x:Realm):D.agg (zzy x)=aR x:=zyw
@[simp] def aKy (x:Realm):jl 8 (aR x)=aR x:=zyw
@[simp] def aNV (x:Realm)(a0 a1 a2 a3 a4 a5 a6 a7:D):D.agg (dp [a0,a1,a2,a3,a4,a5,a6,a7] 0 (zzy x))=aR x:=zyw
@[simp] def aJh (x:Realm):(aR x).c 0=strs x.currencies:=zyw
@[simp] def aJi (x:Realm):(aR x).c 1=pM x.cities:=zyw
@[simp] def aJj (x:Realm):(aR x).c 2=groups x.groups:=zyw
@[simp] def aJk (x:Realm):(aR x).c 3=firms x.firms:=zyw
@[simp] def aJl (x:Realm):(aR x).c 4=orders x.orders:=zyw
@[simp] def aJm (x:Realm):(aR x).c 5=usances x.usances:=zyw
@[simp] def aJn (x:Realm):(aR x).c 6=rates x.rates:=zyw
@[simp] def aJo (x:Realm):(aR x).c 7=halts x.halts:=zyw
abbrev aGZ:Ty:=.agg [.slice .str,.slice adA,.slice adD,.slice adC,.slice adF,.slice adJ,.slice adG,.slice adE]
def Realm.OK (x:Realm):Prop:=x.currencies.length<=maxLen/\(x.cities.length<=maxLen/\∀y,y∈x.cities->City.OK y)/\(x.groups.length<=maxLen/\∀y,y∈x.groups->Group.OK y)/\(x.firms.length<=maxLen/\∀y,y∈x.firms->Firm.OK y)/\(x.orders.length<=maxLen/\∀y,y∈x.orders->Order.OK y)/\(x.usances.length<=maxLen/\∀y,y∈x.usances->Usance.OK y)/\(x.rates.length<=maxLen/\∀y,y∈x.rates->Rate.OK y)/\(x.halts.length<=maxLen/\∀y,y∈x.halts->Halt.OK y)
def aBW {d:D}(h:DTy aGZ d):∃x:Realm,d=aR x/\x.OK:=by
 obtain⟨ds,rfl,hs⟩:=h.agg_inv;obtain⟨d0,ds,rfl,h0,hs⟩:=hs.cons_inv;obtain⟨d1,ds,rfl,h1,hs⟩:=hs.cons_inv;obtain⟨d2,ds,rfl,h2,hs⟩:=hs.cons_inv;obtain⟨d3,ds,rfl,h3,hs⟩:=hs.cons_inv;obtain⟨d4,ds,rfl,h4,hs⟩:=hs.cons_inv;obtain⟨d5,ds,rfl,h5,hs⟩:=hs.cons_inv;obtain⟨d6,ds,rfl,h6,hs⟩:=hs.cons_inv;obtain⟨d7,ds,rfl,h7,hs⟩:=hs.cons_inv;obtain rfl:=hs.nil_inv;obtain⟨n0,rfl,b0⟩:=aCW h0;obtain⟨n1,rfl,b1,c1⟩:=aqp h1;obtain⟨n2,rfl,b2,c2⟩:=atM h2;obtain⟨n3,rfl,b3,c3⟩:=ar5 h3;obtain⟨n4,rfl,b4,c4⟩:=aAj h4;obtain⟨n5,rfl,b5,c5⟩:=aG9 h5;obtain⟨n6,rfl,b6,c6⟩:=aBM h6;obtain⟨n7,rfl,b7,c7⟩:=auh h7;exact⟨⟨n0,n1,n2,n3,n4,n5,n6,n7⟩,rfl,⟨b0,⟨b1,c1⟩,⟨b2,c2⟩,⟨b3,c3⟩,⟨b4,c4⟩,⟨b5,c5⟩,⟨b6,c6⟩,⟨b7,c7⟩⟩⟩
structure Tenor where
 kind:Int
 n:Int
 unit:Int
 deriving DecidableEq,Inhabited
def lx (x:Tenor):D:=.agg [.int x.kind,.int x.n,.int x.unit]
@[simp] def aJP (x:Tenor):(lx x).cells=[.int x.kind,.int x.n,.int x.unit]:=zyw
@[simp] def aNJ (x:Tenor):D.agg [.int x.kind,.int x.n,.int x.unit]=lx x:=zyw
@[simp] def aJM (x:Tenor):(lx x).c 0=.int x.kind:=zyw
@[simp] def aJN (x:Tenor):(lx x).c 1=.int x.n:=zyw
@[simp] def aJO (x:Tenor):(lx x).c 2=.int x.unit:=zyw
def Tenor.OK (x:Tenor):Prop:=aX x.kind/\aX x.n/\aX x.unit
structure Bill where
 drawer:Int
 drawee:Int
 payee:Int
 sum:Int
 currency:Int
 tenor:Tenor
 day:Int
 city:Int
 pay:Int
 need:Int
 rate:Int
 flags:Int
 parts:Int
 deriving DecidableEq,Inhabited
abbrev zzz (x:Bill):List D:=[.int x.drawer,.int x.drawee,.int x.payee,.int x.sum,.int x.currency,.int x.tenor.kind,.int x.tenor.n,.int x.tenor.unit,.int x.day,.int x.city,.int x.pay,.int x.need,.int x.rate,.int x.flags,.int x.parts]
def dc (x:Bill):D:=.agg (zzz x)
@[simp] def aH6 (x:Bill):(dc x).cells=(zzz x):=zyw
@[simp] def aNq (x:Bill):D.agg (zzz x)=dc x:=zyw
@[simp] def aKs (x:Bill):jl 15 (dc x)=dc x:=zyw
@[simp] def aNS (x:Bill)(a0 a1 a2 a3 a4 a5 a6 a7 a8 a9 ji ke jk kf kg:D):D.agg (dp [a0,a1,a2,a3,a4,a5,a6,a7,a8,a9,ji,ke,jk,kf,kg] 0 (zzz x))=dc x:=zyw
@[simp] def aHR (x:Bill):(dc x).c 0=.int x.drawer:=zyw
@[simp] def aHS (x:Bill):(dc x).c 1=.int x.drawee:=zyw
@[simp] def aHY (x:Bill):(dc x).c 2=.int x.payee:=zyw
@[simp] def aHZ (x:Bill):(dc x).c 3=.int x.sum:=zyw
@[simp] def aH0 (x:Bill):(dc x).c 4=.int x.currency:=zyw
@[simp] def aH1 (x:Bill):(dc x).c 5=.int x.tenor.kind:=zyw
@[simp] def aH2 (x:Bill):(dc x).c 6=.int x.tenor.n:=zyw
@[simp] def aH3 (x:Bill):(dc x).c 7=.int x.tenor.unit:=zyw
@[simp] def aH4 (x:Bill):(dc x).c 8=.int x.day:=zyw
@[simp] def aH5 (x:Bill):(dc x).c 9=.int x.city:=zyw
@[simp] def aHT (x:Bill):(dc x).c 10=.int x.pay:=zyw
@[simp] def aHU (x:Bill):(dc x).c 11=.int x.need:=zyw
@[simp] def aHV (x:Bill):(dc x).c 12=.int x.rate:=zyw
@[simp] def aHW (x:Bill):(dc x).c 13=.int x.flags:=zyw
@[simp] def aHX (x:Bill):(dc x).c 14=.int x.parts:=zyw
def Bill.OK (x:Bill):Prop:=aX x.drawer/\aX x.drawee/\aX x.payee/\aX x.sum/\aX x.currency/\Tenor.OK x.tenor/\aX x.day/\aX x.city/\aX x.pay/\aX x.need/\aX x.rate/\aX x.flags/\aX x.parts
structure Sign where
 kind:Int
 part:Int
 who:Int
 for_:Int
 to:Int
 sum:Int
 day:Int
 city:Int
 flags:Int
 deriving DecidableEq,Inhabited
abbrev zzx (x:Sign):List D:=[.int x.kind,.int x.part,.int x.who,.int x.for_,.int x.to,.int x.sum,.int x.day,.int x.city,.int x.flags]
def jL (x:Sign):D:=.agg (zzx x)
@[simp] def aJG (x:Sign):(jL x).cells=(zzx x):=zyw
@[simp] def aNI (x:Sign):D.agg (zzx x)=jL x:=zyw
@[simp] def aKA (x:Sign):jl 9 (jL x)=jL x:=zyw
@[simp] def aJx (x:Sign):(jL x).c 0=.int x.kind:=zyw
@[simp] def aJy (x:Sign):(jL x).c 1=.int x.part:=zyw
@[simp] def aJz (x:Sign):(jL x).c 2=.int x.who:=zyw
@[simp] def aJA (x:Sign):(jL x).c 3=.int x.for_:=zyw
@[simp] def aJB (x:Sign):(jL x).c 4=.int x.to:=zyw
@[simp] def aJC (x:Sign):(jL x).c 5=.int x.sum:=zyw
@[simp] def aJD (x:Sign):(jL x).c 6=.int x.day:=zyw
@[simp] def aJE (x:Sign):(jL x).c 7=.int x.city:=zyw
@[simp] def aJF (x:Sign):(jL x).c 8=.int x.flags:=zyw
def signs (l:List Sign):D:=.list (l.map jL)
@[simp] def aOq (l:List Sign):(signs l).l=l.map jL:=zyw
@[simp] def aOp (l:List Sign):(signs l).cells=[signs l]:=zyw
abbrev adI:Ty:=.agg [.int .i64,.int .i64,.int .i64,.int .i64,.int .i64,.int .i64,.int .i64,.int .i64,.int .i64]
def Sign.OK (x:Sign):Prop:=aX x.kind/\aX x.part/\aX x.who/\aX x.for_/\aX x.to/\aX x.sum/\aX x.day/\aX x.city/\aX x.flags
def aCJ {d:D}(h:DTy adI d):∃x:Sign,d=jL x/\x.OK:=by
 obtain⟨ds,rfl,hs⟩:=h.agg_inv;obtain⟨d0,ds,rfl,h0,hs⟩:=hs.cons_inv;obtain⟨d1,ds,rfl,h1,hs⟩:=hs.cons_inv;obtain⟨d2,ds,rfl,h2,hs⟩:=hs.cons_inv;obtain⟨d3,ds,rfl,h3,hs⟩:=hs.cons_inv;obtain⟨d4,ds,rfl,h4,hs⟩:=hs.cons_inv;obtain⟨d5,ds,rfl,h5,hs⟩:=hs.cons_inv;obtain⟨d6,ds,rfl,h6,hs⟩:=hs.cons_inv;obtain⟨d7,ds,rfl,h7,hs⟩:=hs.cons_inv;obtain⟨d8,ds,rfl,h8,hs⟩:=hs.cons_inv;obtain rfl:=hs.nil_inv;obtain⟨n0,rfl,b0⟩:=h0.i64_inv;obtain⟨n1,rfl,b1⟩:=h1.i64_inv;obtain⟨n2,rfl,b2⟩:=h2.i64_inv;obtain⟨n3,rfl,b3⟩:=h3.i64_inv;obtain⟨n4,rfl,b4⟩:=h4.i64_inv;obtain⟨n5,rfl,b5⟩:=h5.i64_inv;obtain⟨n6,rfl,b6⟩:=h6.i64_inv;obtain⟨n7,rfl,b7⟩:=h7.i64_inv;obtain⟨n8,rfl,b8⟩:=h8.i64_inv;exact⟨⟨n0,n1,n2,n3,n4,n5,n6,n7,n8⟩,rfl,⟨b0,b1,b2,b3,b4,b5,b6,b7,b8⟩⟩
def aCL {d:D}(h:DTy (.slice adI) d):∃l:List Sign,d=signs l/\l.length<=maxLen/\∀y,y∈l->Sign.OK y:=by
 obtain⟨xs,rfl,hm,hx⟩:=h.slice_inv;obtain⟨l,rfl,hl⟩:=kP (enc:=jL) (P:=Sign.OK) λx hh=>aCJ (hx x hh);exact⟨l,rfl,by simpa using hm,hl⟩
structure Alter where
 at_:Int
 sum:Int
 deriving DecidableEq,Inhabited
def qP (x:Alter):D:=.agg [.int x.at_,.int x.sum]
@[simp] def aHQ (x:Alter):(qP x).cells=[.int x.at_,.int x.sum]:=zyw
@[simp] def aNp (x:Alter):D.agg [.int x.at_,.int x.sum]=qP x:=zyw
@[simp] def aHO (x:Alter):(qP x).c 0=.int x.at_:=zyw
@[simp] def aHP (x:Alter):(qP x).c 1=.int x.sum:=zyw
def alters (l:List Alter):D:=.list (l.map qP)
@[simp] def aKE (l:List Alter):(alters l).l=l.map qP:=zyw
@[simp] def aKD (l:List Alter):(alters l).cells=[alters l]:=zyw
abbrev ady:Ty:=.agg [.int .i64,.int .i64]
def Alter.OK (x:Alter):Prop:=aX x.at_/\aX x.sum
def aps {d:D}(h:DTy ady d):∃x:Alter,d=qP x/\x.OK:=by
 obtain⟨ds,rfl,hs⟩:=h.agg_inv;obtain⟨d0,ds,rfl,h0,hs⟩:=hs.cons_inv;obtain⟨d1,ds,rfl,h1,hs⟩:=hs.cons_inv;obtain rfl:=hs.nil_inv;obtain⟨n0,rfl,b0⟩:=h0.i64_inv;obtain⟨n1,rfl,b1⟩:=h1.i64_inv;exact⟨⟨n0,n1⟩,rfl,⟨b0,b1⟩⟩
def apt {d:D}(h:DTy (.slice ady) d):∃l:List Alter,d=alters l/\l.length<=maxLen/\∀y,y∈l->Alter.OK y:=by
 obtain⟨xs,rfl,hm,hx⟩:=h.slice_inv;obtain⟨l,rfl,hl⟩:=kP (enc:=qP) (P:=Alter.OK) λx hh=>aps (hx x hh);exact⟨l,rfl,by simpa using hm,hl⟩
structure Act where
 kind:Int
 who:Int
 to:Int
 part:Int
 at_:Int
 sum:Int
 day:Int
 city:Int
 form:Int
 deriving DecidableEq,Inhabited
abbrev zzw (x:Act):List D:=[.int x.kind,.int x.who,.int x.to,.int x.part,.int x.at_,.int x.sum,.int x.day,.int x.city,.int x.form]
def ki (x:Act):D:=.agg (zzw x)
@[simp] def aHN (x:Act):(ki x).cells=(zzw x):=zyw
@[simp] def aNo (x:Act):D.agg (zzw x)=ki x:=zyw
@[simp] def aKr (x:Act):jl 9 (ki x)=ki x:=zyw
@[simp] def aHE (x:Act):(ki x).c 0=.int x.kind:=zyw
@[simp] def aHF (x:Act):(ki x).c 1=.int x.who:=zyw
@[simp] def aHG (x:Act):(ki x).c 2=.int x.to:=zyw
@[simp] def aHH (x:Act):(ki x).c 3=.int x.part:=zyw
@[simp] def aHI (x:Act):(ki x).c 4=.int x.at_:=zyw
@[simp] def aHJ (x:Act):(ki x).c 5=.int x.sum:=zyw
@[simp] def aHK (x:Act):(ki x).c 6=.int x.day:=zyw
@[simp] def aHL (x:Act):(ki x).c 7=.int x.city:=zyw
@[simp] def aHM (x:Act):(ki x).c 8=.int x.form:=zyw
def acts (l:List Act):D:=.list (l.map ki)
@[simp] def aKk (l:List Act):(acts l).l=l.map ki:=zyw
@[simp] def aKj (l:List Act):(acts l).cells=[acts l]:=zyw
abbrev adx:Ty:=.agg [.int .i64,.int .i64,.int .i64,.int .i64,.int .i64,.int .i64,.int .i64,.int .i64,.int .i64]
def Act.OK (x:Act):Prop:=aX x.kind/\aX x.who/\aX x.to/\aX x.part/\aX x.at_/\aX x.sum/\aX x.day/\aX x.city/\aX x.form
def apk {d:D}(h:DTy adx d):∃x:Act,d=ki x/\x.OK:=by
 obtain⟨ds,rfl,hs⟩:=h.agg_inv;obtain⟨d0,ds,rfl,h0,hs⟩:=hs.cons_inv;obtain⟨d1,ds,rfl,h1,hs⟩:=hs.cons_inv;obtain⟨d2,ds,rfl,h2,hs⟩:=hs.cons_inv;obtain⟨d3,ds,rfl,h3,hs⟩:=hs.cons_inv;obtain⟨d4,ds,rfl,h4,hs⟩:=hs.cons_inv;obtain⟨d5,ds,rfl,h5,hs⟩:=hs.cons_inv;obtain⟨d6,ds,rfl,h6,hs⟩:=hs.cons_inv;obtain⟨d7,ds,rfl,h7,hs⟩:=hs.cons_inv;obtain⟨d8,ds,rfl,h8,hs⟩:=hs.cons_inv;obtain rfl:=hs.nil_inv;obtain⟨n0,rfl,b0⟩:=h0.i64_inv;obtain⟨n1,rfl,b1⟩:=h1.i64_inv;obtain⟨n2,rfl,b2⟩:=h2.i64_inv;obtain⟨n3,rfl,b3⟩:=h3.i64_inv;obtain⟨n4,rfl,b4⟩:=h4.i64_inv;obtain⟨n5,rfl,b5⟩:=h5.i64_inv;obtain⟨n6,rfl,b6⟩:=h6.i64_inv;obtain⟨n7,rfl,b7⟩:=h7.i64_inv;obtain⟨n8,rfl,b8⟩:=h8.i64_inv;exact⟨⟨n0,n1,n2,n3,n4,n5,n6,n7,n8⟩,rfl,⟨b0,b1,b2,b3,b4,b5,b6,b7,b8⟩⟩
def apl {d:D}(h:DTy (.slice adx) d):∃l:List Act,d=acts l/\l.length<=maxLen/\∀y,y∈l->Act.OK y:=by
 obtain⟨xs,rfl,hm,hx⟩:=h.slice_inv;obtain⟨l,rfl,hl⟩:=kP (enc:=ki) (P:=Act.OK) λx hh=>apk (hx x hh);exact⟨l,rfl,by simpa using hm,hl⟩
structure Fact where
 kind:Int
 at_:Int
 n:Int
 deriving DecidableEq,Inhabited
def uv (x:Fact):D:=.agg [.int x.kind,.int x.at_,.int x.n]
@[simp] def aIy (x:Fact):(uv x).cells=[.int x.kind,.int x.at_,.int x.n]:=zyw
@[simp] def aNw (x:Fact):D.agg [.int x.kind,.int x.at_,.int x.n]=uv x:=zyw
@[simp] def aIv (x:Fact):(uv x).c 0=.int x.kind:=zyw
@[simp] def aIw (x:Fact):(uv x).c 1=.int x.at_:=zyw
@[simp] def aIx (x:Fact):(uv x).c 2=.int x.n:=zyw
def facts (l:List Fact):D:=.list (l.map uv)
@[simp] def aL9 (l:List Fact):(facts l).l=l.map uv:=zyw
@[simp] def aL8 (l:List Fact):(facts l).cells=[facts l]:=zyw
abbrev adB:Ty:=.agg [.int .i64,.int .i64,.int .i64]
def Fact.OK (x:Fact):Prop:=aX x.kind/\aX x.at_/\aX x.n
def arV {d:D}(h:DTy adB d):∃x:Fact,d=uv x/\x.OK:=by
 obtain⟨ds,rfl,hs⟩:=h.agg_inv;obtain⟨d0,ds,rfl,h0,hs⟩:=hs.cons_inv;obtain⟨d1,ds,rfl,h1,hs⟩:=hs.cons_inv;obtain⟨d2,ds,rfl,h2,hs⟩:=hs.cons_inv;obtain rfl:=hs.nil_inv;obtain⟨n0,rfl,b0⟩:=h0.i64_inv;obtain⟨n1,rfl,b1⟩:=h1.i64_inv;obtain⟨n2,rfl,b2⟩:=h2.i64_inv;exact⟨⟨n0,n1,n2⟩,rfl,⟨b0,b1,b2⟩⟩
def arW {d:D}(h:DTy (.slice adB) d):∃l:List Fact,d=facts l/\l.length<=maxLen/\∀y,y∈l->Fact.OK y:=by
 obtain⟨xs,rfl,hm,hx⟩:=h.slice_inv;obtain⟨l,rfl,hl⟩:=kP (enc:=uv) (P:=Fact.OK) λx hh=>arV (hx x hh);exact⟨l,rfl,by simpa using hm,hl⟩
structure File where
 bill:Bill
 signs:List Sign
 alters:List Alter
 acts:List Act
 facts:List Fact
 deriving Inhabited
abbrev WP (x:File):List D:=[.int x.bill.drawer,.int x.bill.drawee,.int x.bill.payee,.int x.bill.sum,.int x.bill.currency,.int x.bill.tenor.kind,.int x.bill.tenor.n,.int x.bill.tenor.unit,.int x.bill.day,.int x.bill.city,.int x.bill.pay,.int x.bill.need,.int x.bill.rate,.int x.bill.flags,.int x.bill.parts,signs x.signs,alters x.alters,acts x.acts,facts x.facts]
def bQ (x:File):D:=.agg (WP x)
@[simp] def aIN (x:File):(bQ x).cells=(WP x):=zyw
@[simp] def aNx (x:File):D.agg (WP x)=bQ x:=zyw
@[simp] def aKv (x:File):jl 19 (bQ x)=bQ x:=zyw
@[simp] def aNT (x:File)(a0 a1 a2 a3 a4 a5 a6 a7 a8 a9 ji ke jk kf kg ln lq ls l9:D):D.agg (dp [a0,a1,a2,a3,a4,a5,a6,a7,a8,a9,ji,ke,jk,kf,kg,ln,lq,ls,l9] 0 (WP x))=bQ x:=zyw
@[simp] def aIH (x:File):(bQ x).c 2=.int x.bill.payee:=zyw
@[simp] def aII (x:File):(bQ x).c 3=.int x.bill.sum:=zyw
@[simp] def aIJ (x:File):(bQ x).c 4=.int x.bill.currency:=zyw
@[simp] def aIK (x:File):(bQ x).c 5=.int x.bill.tenor.kind:=zyw
@[simp] def aIL (x:File):(bQ x).c 8=.int x.bill.day:=zyw
@[simp] def aIM (x:File):(bQ x).c 9=.int x.bill.city:=zyw
@[simp] def aIz (x:File):(bQ x).c 10=.int x.bill.pay:=zyw
@[simp] def aIA (x:File):(bQ x).c 12=.int x.bill.rate:=zyw
@[simp] def aIB (x:File):(bQ x).c 13=.int x.bill.flags:=zyw
@[simp] def aIC (x:File):(bQ x).c 14=.int x.bill.parts:=zyw
@[simp] def aID (x:File):(bQ x).c 15=signs x.signs:=zyw
@[simp] def aIE (x:File):(bQ x).c 16=alters x.alters:=zyw
@[simp] def aIF (x:File):(bQ x).c 17=acts x.acts:=zyw
@[simp] def aIG (x:File):(bQ x).c 18=facts x.facts:=zyw
abbrev aGY:Ty:=.agg [.int .i64,.int .i64,.int .i64,.int .i64,.int .i64,.int .i64,.int .i64,.int .i64,.int .i64,.int .i64,.int .i64,.int .i64,.int .i64,.int .i64,.int .i64,.slice adI,.slice ady,.slice adx,.slice adB]
def File.OK (x:File):Prop:=Bill.OK x.bill/\(x.signs.length<=maxLen/\∀y,y∈x.signs->Sign.OK y)/\(x.alters.length<=maxLen/\∀y,y∈x.alters->Alter.OK y)/\(x.acts.length<=maxLen/\∀y,y∈x.acts->Act.OK y)/\(x.facts.length<=maxLen/\∀y,y∈x.facts->Fact.OK y)
def arY {d:D}(h:DTy aGY d):∃x:File,d=bQ x/\x.OK:=by
 obtain⟨ds,rfl,hs⟩:=h.agg_inv;obtain⟨d0,ds,rfl,h0,hs⟩:=hs.cons_inv;obtain⟨d1,ds,rfl,h1,hs⟩:=hs.cons_inv;obtain⟨d2,ds,rfl,h2,hs⟩:=hs.cons_inv;obtain⟨d3,ds,rfl,h3,hs⟩:=hs.cons_inv;obtain⟨d4,ds,rfl,h4,hs⟩:=hs.cons_inv;obtain⟨d5,ds,rfl,h5,hs⟩:=hs.cons_inv;obtain⟨d6,ds,rfl,h6,hs⟩:=hs.cons_inv;obtain⟨d7,ds,rfl,h7,hs⟩:=hs.cons_inv;obtain⟨d8,ds,rfl,h8,hs⟩:=hs.cons_inv;obtain⟨d9,ds,rfl,h9,hs⟩:=hs.cons_inv;obtain⟨d10,ds,rfl,gX,hs⟩:=hs.cons_inv;obtain⟨d11,ds,rfl,pQ,hs⟩:=hs.cons_inv;obtain⟨d12,ds,rfl,lC,hs⟩:=hs.cons_inv;obtain⟨d13,ds,rfl,h13,hs⟩:=hs.cons_inv;obtain⟨d14,ds,rfl,h14,hs⟩:=hs.cons_inv;obtain⟨d15,ds,rfl,Nc,hs⟩:=hs.cons_inv;obtain⟨d16,ds,rfl,Nd,hs⟩:=hs.cons_inv;obtain⟨d17,ds,rfl,Nf,hs⟩:=hs.cons_inv;obtain⟨d18,ds,rfl,Ng,hs⟩:=hs.cons_inv;obtain rfl:=hs.nil_inv;obtain⟨n0,rfl,b0⟩:=h0.i64_inv;obtain⟨n1,rfl,b1⟩:=h1.i64_inv;obtain⟨n2,rfl,b2⟩:=h2.i64_inv;obtain⟨n3,rfl,b3⟩:=h3.i64_inv;obtain⟨n4,rfl,b4⟩:=h4.i64_inv;obtain⟨n5,rfl,b5⟩:=h5.i64_inv;obtain⟨n6,rfl,b6⟩:=h6.i64_inv;obtain⟨n7,rfl,b7⟩:=h7.i64_inv;obtain⟨n8,rfl,b8⟩:=h8.i64_inv;obtain⟨n9,rfl,b9⟩:=h9.i64_inv;obtain⟨n10,rfl,Ke⟩:=gX.i64_inv;obtain⟨n11,rfl,Kf⟩:=pQ.i64_inv;obtain⟨n12,rfl,Kg⟩:=lC.i64_inv;obtain⟨n13,rfl,Kh⟩:=h13.i64_inv;obtain⟨n14,rfl,Ki⟩:=h14.i64_inv;obtain⟨n15,rfl,Kj,c15⟩:=aCL Nc;obtain⟨n16,rfl,Kk,c16⟩:=apt Nd;obtain⟨n17,rfl,Kl,c17⟩:=apl Nf;obtain⟨n18,rfl,Km,c18⟩:=arW Ng;exact⟨⟨⟨n0,n1,n2,n3,n4,⟨n5,n6,n7⟩,n8,n9,n10,n11,n12,n13,n14⟩,n15,n16,n17,n18⟩,rfl,⟨⟨b0,b1,b2,b3,b4,⟨b5,b6,b7⟩,b8,b9,Ke,Kf,Kg,Kh,Ki⟩,⟨Kj,c15⟩,⟨Kk,c16⟩,⟨Kl,c17⟩,⟨Km,c18⟩⟩⟩
structure Case where
 file:File
 sign:Int
 holder:Int
 defence:Int
 due:Int
 day:Int
 deriving Inhabited
def eF (x:Case):D:=.agg [.int x.file.bill.drawer,.int x.file.bill.drawee,.int x.file.bill.payee,.int x.file.bill.sum,.int x.file.bill.currency,.int x.file.bill.tenor.kind,.int x.file.bill.tenor.n,.int x.file.bill.tenor.unit,.int x.file.bill.day,.int x.file.bill.city,.int x.file.bill.pay,.int x.file.bill.need,.int x.file.bill.rate,.int x.file.bill.flags,.int x.file.bill.parts,signs x.file.signs,alters x.file.alters,acts x.file.acts,facts x.file.facts,.int x.sign,.int x.holder,.int x.defence,.int x.due,.int x.day]
@[simp] def aIf (x:Case):(eF x).cells=[.int x.file.bill.drawer,.int x.file.bill.drawee,.int x.file.bill.payee,.int x.file.bill.sum,.int x.file.bill.currency,.int x.file.bill.tenor.kind,.int x.file.bill.tenor.n,.int x.file.bill.tenor.unit,.int x.file.bill.day,.int x.file.bill.city,.int x.file.bill.pay,.int x.file.bill.need,.int x.file.bill.rate,.int x.file.bill.flags,.int x.file.bill.parts,signs x.file.signs,alters x.file.alters,acts x.file.acts,facts x.file.facts,.int x.sign,.int x.holder,.int x.defence,.int x.due,.int x.day]:=zyw
@[simp] def aNr (x:Case):D.agg [.int x.file.bill.drawer,.int x.file.bill.drawee,.int x.file.bill.payee,.int x.file.bill.sum,.int x.file.bill.currency,.int x.file.bill.tenor.kind,.int x.file.bill.tenor.n,.int x.file.bill.tenor.unit,.int x.file.bill.day,.int x.file.bill.city,.int x.file.bill.pay,.int x.file.bill.need,.int x.file.bill.rate,.int x.file.bill.flags,.int x.file.bill.parts,signs x.file.signs,alters x.file.alters,acts x.file.acts,facts x.file.facts,.int x.sign,.int x.holder,.int x.defence,.int x.due,.int x.day]=eF x:=zyw
@[simp] def apr (x:Case):jl 24 (eF x)=eF x:=zyw
@[simp] def aAl (x:Case)(a0 a1 a2 a3 a4 a5 a6 a7 a8 a9 ji ke jk kf kg ln lq ls l9 ES ET EU EV EW:D):D.agg (dp [a0,a1,a2,a3,a4,a5,a6,a7,a8,a9,ji,ke,jk,kf,kg,ln,lq,ls,l9,ES,ET,EU,EV,EW] 0 [.int x.file.bill.drawer,.int x.file.bill.drawee,.int x.file.bill.payee,.int x.file.bill.sum,.int x.file.bill.currency,.int x.file.bill.tenor.kind,.int x.file.bill.tenor.n,.int x.file.bill.tenor.unit,.int x.file.bill.day,.int x.file.bill.city,.int x.file.bill.pay,.int x.file.bill.need,.int x.file.bill.rate,.int x.file.bill.flags,.int x.file.bill.parts,signs x.file.signs,alters x.file.alters,acts x.file.acts,facts x.file.facts,.int x.sign,.int x.holder,.int x.defence,.int x.due,.int x.day])=eF x:=zyw
@[simp] def aIe (x:Case):(eF x).c 9=.int x.file.bill.city:=zyw
@[simp] def aH7 (x:Case):(eF x).c 10=.int x.file.bill.pay:=zyw
@[simp] def aH8 (x:Case):(eF x).c 15=signs x.file.signs:=zyw
@[simp] def aH9 (x:Case):(eF x).c 19=.int x.sign:=zyw
@[simp] def aIa (x:Case):(eF x).c 20=.int x.holder:=zyw
@[simp] def aIb (x:Case):(eF x).c 21=.int x.defence:=zyw
@[simp] def aIc (x:Case):(eF x).c 22=.int x.due:=zyw
@[simp] def aId (x:Case):(eF x).c 23=.int x.day:=zyw
def cases(l:List Case):D:=.list (l.map eF)
structure Cell where
 known:Bool
 n:Int
 deriving DecidableEq,Inhabited
def ct (x:Cell):D:=.agg [.bool x.known,.int x.n]
@[simp] def aIi (x:Cell):(ct x).cells=[.bool x.known,.int x.n]:=zyw
@[simp] def aNs (x:Cell):D.agg [.bool x.known,.int x.n]=ct x:=zyw
@[simp] def aIg (x:Cell):(ct x).c 0=.bool x.known:=zyw
@[simp] def aIh (x:Cell):(ct x).c 1=.int x.n:=zyw
def cells (l:List Cell):D:=.list (l.map ct)
@[simp] def aKV (l:List Cell):(cells l).l=l.map ct:=zyw
@[simp] def aKU (l:List Cell):(cells l).cells=[cells l]:=zyw
structure Said where
 cell:Cell
 order:Int
 path:List Int
 err:Int
 deriving Inhabited
def jK (x:Said):D:=.agg [.bool x.cell.known,.int x.cell.n,.int x.order,ints x.path,.int x.err]
@[simp] def aJt (x:Said):(jK x).cells=[.bool x.cell.known,.int x.cell.n,.int x.order,ints x.path,.int x.err]:=zyw
@[simp] def aNG (x:Said):D.agg [.bool x.cell.known,.int x.cell.n,.int x.order,ints x.path,.int x.err]=jK x:=zyw
@[simp] def aKz (x:Said):jl 5 (jK x)=jK x:=zyw
@[simp] def aJs (x:Said):(jK x).c 4=.int x.err:=zyw
structure Effect where
 sign:Int
 kind:Int
 firm:Int
 binds:Int
 text:Int
 sum:Int
 recourse:Bool
 deriving DecidableEq,Inhabited
def uu (x:Effect):D:=.agg [.int x.sign,.int x.kind,.int x.firm,.int x.binds,.int x.text,.int x.sum,.bool x.recourse]
@[simp] def aIu (x:Effect):(uu x).cells=[.int x.sign,.int x.kind,.int x.firm,.int x.binds,.int x.text,.int x.sum,.bool x.recourse]:=zyw
@[simp] def aNv (x:Effect):D.agg [.int x.sign,.int x.kind,.int x.firm,.int x.binds,.int x.text,.int x.sum,.bool x.recourse]=uu x:=zyw
@[simp] def aKu (x:Effect):jl 7 (uu x)=uu x:=zyw
@[simp] def aIt (x:Effect):(uu x).c 5=.int x.sum:=zyw
@[simp] def aOH (a0 x0:D):dp [a0] 0 [x0]=[x0]:=zyw
@[simp] def aOI (a0 a1 x0 x1:D):dp [a0,a1] 0 [x0,x1]=[x0,x1]:=zyw
@[simp] def aOJ (a0 a1 a2 x0 x1 x2:D):dp [a0,a1,a2] 0 [x0,x1,x2]=[x0,x1,x2]:=zyw
@[simp] def aOK (a0 a1 a2 a3 x0 x1 x2 x3:D):dp [a0,a1,a2,a3] 0 [x0,x1,x2,x3]=[x0,x1,x2,x3]:=zyw
@[simp] def aOL (a0 a1 a2 a3 a4 x0 x1 x2 x3 x4:D):dp [a0,a1,a2,a3,a4] 0 [x0,x1,x2,x3,x4]=[x0,x1,x2,x3,x4]:=zyw
@[simp] def aOM (a0 a1 a2 a3 a4 a5 x0 x1 x2 x3 x4 x5:D):dp [a0,a1,a2,a3,a4,a5] 0 [x0,x1,x2,x3,x4,x5]=[x0,x1,x2,x3,x4,x5]:=zyw
@[simp] def aON (a0 a1 a2 a3 a4 a5 a6 x0 x1 x2 x3 x4 x5 x6:D):dp [a0,a1,a2,a3,a4,a5,a6] 0 [x0,x1,x2,x3,x4,x5,x6]=[x0,x1,x2,x3,x4,x5,x6]:=zyw
@[simp] def aOO (a0 a1 a2 a3 a4 a5 a6 a7 a8 x0 x1 x2 x3 x4 x5 x6 x7 x8:D):dp [a0,a1,a2,a3,a4,a5,a6,a7,a8] 0 [x0,x1,x2,x3,x4,x5,x6,x7,x8]=[x0,x1,x2,x3,x4,x5,x6,x7,x8]:=zyw
end Rm
set_option maxRecDepth 100000
namespace Rm
open Go Go.Proofs Cx
abbrev I:Ty:=.int .i64
abbrev Y0:Ty:=.agg [.str,I,I,(.slice I),(.slice I),(.slice I)]
abbrev Y1:Ty:=.agg [I]
abbrev Y2:Ty:=.agg [.str,I,I]
abbrev Y3:Ty:=.agg [I,I,.bool]
abbrev Y4:Ty:=.agg [I,I,I,(.slice .trm)]
abbrev Y5:Ty:=.agg [.str,.bool,(.slice Y3),(.slice Y4)]
abbrev Y6:Ty:=.agg [I,I,I]
abbrev Y7:Ty:=.agg [I,I,I,I,I]
abbrev Y8:Ty:=.agg [(.slice .str),(.slice Y0),(.slice Y1),(.slice Y2),(.slice Y5),(.slice Y6),(.slice Y7),(.slice Y6)]
abbrev Y9:Ty:=.agg [I,I,I,I,I,I,I,I,I]
abbrev jH:Ty:=.agg [I,I]
abbrev du:Ty:=.agg [I,I,I,I,I,I,I,I,I,I,I,I,I,I,I,(.slice Y9),(.slice jH),(.slice Y9),(.slice Y6)]
abbrev RP:Ty:=.agg [I,I,I,I,I,I,I]
abbrev J5:Ty:=.agg [I,I,I,I,I,I,.bool]
abbrev uc:Ty:=.agg [.bool,I,I,(.slice I),I]
abbrev mP:Ty:=.agg [I,I,I,I,I,I,I,I,I,I,I,I,I,I,I,(.slice Y9),(.slice jH),(.slice Y9),(.slice Y6),I,I,I,I,I]
abbrev vY:Ty:=.agg [I,I,I,I,I,I,I,I,I,I,I,I,I,I,I]
abbrev J6:Ty:=.agg [(.slice .str),(.slice Y0),(.slice Y1),(.slice Y2),(.slice Y5),(.slice Y6),(.slice Y7),(.slice Y6),I,I,I,I,I,I,I,I,I,I,I,I,I,I,I,I,I,(.slice Y9),(.slice jH),(.slice Y9),(.slice Y6),I,I]
abbrev Y18:Ty:=.agg [(.int .u64),(.int .u64)]
abbrev dU:Ty:=.agg [.bool,I]
abbrev mQ:Ty:=.agg [I,I,(.slice .trm)]
abbrev Y21:Ty:=.agg [(.slice dU)]
abbrev Y22:Ty:=.agg [(.slice I),I]
abbrev zzu (a:List Ty)(r:Ty):Sig:=⟨a,r,.dat⟩
def yf:List (Nat×Sig):=[
 (3,zzu [Y8,I,du,I,I,I,I] .bool),
 (6,zzu [] .bool),
 (7,zzu [Y8,du] .bool),
 (8,zzu [Y8,I,I,I] (.tup [jH,.bool])),
 (9,zzu [Y8,I,I,I] (.tup [jH,.bool])),
 (10,zzu [Y8,I,du,I,I] RP),
 (11,zzu [Y8,I,du,I,I] RP),
 (13,zzu [Y8,du] .bool),
 (14,zzu [Y8] I),
 (15,zzu [du] .bool),
 (16,zzu [Y8,du] I),
 (19,zzu [Y8] .bool),
 (23,zzu [I,I] (.tup [Y8,du])),
 (24,zzu [I,I,I,RP] .bool),
 (25,zzu [(.slice Y7),I,I,I] I),
 (26,zzu [I,I] (.tup [jH,I])),
 (27,zzu [(.slice Y7),I,I,I] I),
 (28,zzu [I,I] (.tup [jH,I])),
 (29,zzu [du,I] du),
 (30,zzu [Y8,I,du,I,I] (.tup [J5,.bool])),
 (31,zzu [Y8,I,du,I] I),
 (32,zzu [uc] I),
 (33,zzu [Y8,I,I,mP] uc),
 (34,zzu [I,I,I,I] I),
 (35,zzu [uc] I),
 (36,zzu [Y8,vY,I,I,I,I] I),
 (37,zzu [du,I] du),
 (38,zzu [Y8,I,du,I,I] (.tup [J5,.bool])),
 (39,zzu [Y8,I,du,I] I),
 (40,zzu [uc] I),
 (41,zzu [Y8,I,I,mP] uc),
 (42,zzu [I,I,I,I,I] (.tup [I,I])),
 (43,zzu [uc] I),
 (44,zzu [Y8,vY,I,I,I,I] I),
 (50,zzu [du] .bool),
 (51,zzu [Y5] .bool),
 (52,zzu [Y8] (.tup [(.slice .str),(.slice .str),(.slice .str)])),
 (53,zzu [(.slice .str),I,(.fn [I] .bool)] I),
 (54,zzu [I] .bool),
 (55,zzu [I,(.ref Y8)] .bool),
 (56,zzu [Y8,Y0] .bool),
 (57,zzu [I,I] .bool),
 (58,zzu [I,(.ref Y8)] .bool),
 (59,zzu [I,(.ref Y8)] .bool),
 (60,zzu [Y5] .bool),
 (61,zzu [Y8] I),
 (62,zzu [Y8] I),
 (63,zzu [Y8,vY] I),
 (64,zzu [Y8,du,I] I),
 (65,zzu [I,I,I] .bool),
 (66,zzu [Y8,du] I),
 (67,zzu [du] I),
 (73,zzu [Y8,I,du,I] J6),
 (74,zzu [J6,I] J5),
 (75,zzu [I] (.int .u64)),
 (76,zzu [(.int .u64),(.int .u64)] (.int .u64)),
 (77,zzu [.bool,Y18,Y18] (.tup [jH,I])),
 (78,zzu [.bool,(.slice I),(.slice I)] (.tup [jH,I])),
 (79,zzu [I] (.slice I)),
 (80,zzu [I,I] .bool),
 (81,zzu [Y8,I,I,du,I] uc),
 (82,zzu [Y8,vY,I,I] (.tup [I,I])),
 (83,zzu [du] I),
 (84,zzu [Y8,I,I,mP] (.tup [uc,(.slice dU)])),
 (85,zzu [Y5,I,(.slice dU)] (.tup [dU,I])),
 (86,zzu [I,I,I,I,I] (.tup [I,I])),
 (87,zzu [I,jH,jH] I),
 (88,zzu [Y8,I,du,I,I] J5),
 (89,zzu [Y8,I,I,du,I] uc),
 (90,zzu [Y8,vY,I,I] (.tup [I,I])),
 (91,zzu [du] I),
 (92,zzu [Y8,I,mP] (.slice I)),
 (93,zzu [I] .bool),
 (94,zzu [Y8,I,I,(.slice I)] (.tup [(.slice I),I])),
 (95,zzu [Y5,I,(.slice dU)] (.tup [dU,I])),
 (96,zzu [Y8,mP] (.slice dU)),
 (97,zzu [I] .bool),
 (98,zzu [I] .bool),
 (99,zzu [I,jH,jH] I),
 (101,zzu [mQ] .bool),
 (102,zzu [(.slice .str),I] I),
 (103,zzu [(.slice I),I,I] .bool),
 (104,zzu [I,I] .bool),
 (105,zzu [vY] .bool),
 (106,zzu [Y8,I,I] (.tup [I,I])),
 (107,zzu [Y8,du,I] .bool),
 (108,zzu [Y8,du,Y9] .bool),
 (109,zzu [(.slice I)] I),
 (110,zzu [I,I] I),
 (113,zzu [du,I,I] .bool),
 (114,zzu [(.slice I)] I),
 (115,zzu [J6,I,I] I),
 (116,zzu [J6,I] (.tup [I,I])),
 (117,zzu [(.slice I),(.slice I)] (.slice I)),
 (118,zzu [(.slice I),(.slice I)] (.tup [(.slice I),(.slice I)])),
 (119,zzu [(.slice I),(.slice I)] I),
 (120,zzu [Y8,I] .bool),
 (121,zzu [I] .bool),
 (122,zzu [Y6] .bool),
 (123,zzu [Y8,vY,I] (.tup [I,I])),
 (124,zzu [Y8,I,I] (.tup [I,I])),
 (125,zzu [(.slice I)] I),
 (126,zzu [Y8,mP] (.tup [mP,(.slice dU)])),
 (127,zzu [I] (.tup [I,.bool])),
 (128,zzu [Y8,I,mP] (.nsl I)),
 (129,zzu [Y8,I,I,(.slice I)] (.tup [(.slice I),I])),
 (130,zzu [Y5,I] (.tup [mQ,I])),
 (131,zzu [mQ,(.slice dU)] dU),
 (132,zzu [I,I] .bool),
 (133,zzu [I,I,I] (.tup [I,I,.bool])),
 (134,zzu [(.int .u64),(.int .u64)] (.tup [(.int .u64),(.int .u64)])),
 (135,zzu [(.int .u64),(.int .u64),(.int .u64)] (.tup [(.int .u64),(.int .u64)])),
 (136,zzu [I,I] I),
 (137,zzu [Y8,I,I,du,I,I] I),
 (138,zzu [du,I,I] .bool),
 (139,zzu [du,I] I),
 (140,zzu [du,I] .bool),
 (141,zzu [Y8] I),
 (142,zzu [Y8,I] .bool),
 (143,zzu [I] .bool),
 (144,zzu [Y6] .bool),
 (145,zzu [Y8,I,I] (.tup [I,I])),
 (146,zzu [Y8,vY,I] I),
 (147,zzu [Y8,I,I] (.tup [I,I])),
 (148,zzu [Y8,I] I),
 (149,zzu [Y8,(.slice I)] .bool),
 (150,zzu [I,I,I] .bool),
 (151,zzu [Y8,I,I,(.slice I)] (.tup [I,.bool])),
 (152,zzu [Y5,I] I),
 (153,zzu [mQ,(.slice dU)] dU),
 (154,zzu [Y5,I] I),
 (155,zzu [I] .bool),
 (156,zzu [Y8,mP] (.slice dU)),
 (157,zzu [(.slice I),(.slice I)] (.slice I)),
 (158,⟨[(.slice I),(.slice I)],(.slice I),(.row 3 I)⟩),
 (159,zzu [mQ,I,I] I),
 (160,zzu [.str] .bool),
 (161,zzu [(.slice .str),.str] .bool),
 (162,zzu [du,I,(.slice I)] .bool),
 (163,zzu [du,I,I] .bool),
 (164,zzu [I] .bool),
 (175,zzu [(.int .u64)] I),
 (176,zzu [du,I] (.map I .bool)),
 (177,zzu [du,I] I),
 (178,zzu [(.slice I)] .bool),
 (179,⟨[(.slice I),(.slice I)],(.slice I),(.row 3 I)⟩),
 (180,zzu [I,Y6] (.tup [I,I])),
 (181,zzu [Y8,I] I),
 (182,zzu [Y8,I,I] I),
 (183,zzu [Y0,I] (.tup [I,I])),
 (184,zzu [Y8,mP] (.slice dU)),
 (185,zzu [(.slice I),I] .bool),
 (186,zzu [Y8,I,I,(.slice I)] .bool),
 (187,zzu [Y8,I,I,(.slice I)] (.tup [I,.bool])),
 (188,zzu [(.slice Y4),(.fn [Y4] .bool)] I),
 (189,zzu [Y4,(.ref I)] .bool),
 (190,zzu [mQ] (.tup [I,I])),
 (191,zzu [Y21,mQ] (.tup [dU,(.slice I)])),
 (192,zzu [(.int .u64)] I),
 (193,zzu [Y8] I),
 (194,zzu [Y8] I),
 (195,zzu [Y8] I),
 (196,zzu [Y8] I),
 (197,zzu [Y8] I),
 (198,zzu [I,I] (.tup [I,I])),
 (199,zzu [Y0,I] (.tup [I,I])),
 (200,zzu [Y5,I] Y3),
 (201,zzu [mQ] (.tup [I,I])),
 (202,zzu [I] (.tup [I,.bool])),
 (203,zzu [mQ,(.slice dU)] dU),
 (204,zzu [I] dU),
 (205,zzu [.bool] dU),
 (206,zzu [I,I] .bool),
 (207,zzu [du,I,I] dU),
 (208,zzu [(.slice .str),.str] I),
 (214,zzu [I,I] (.tup [I,I])),
 (215,zzu [I] .bool),
 (216,zzu [Y0,I,I] (.fn [(.fn [I] .bool)] (.tup []))),
 (217,zzu [(.slice jH),(.fn [jH] .bool)] .bool),
 (218,zzu [jH,(.ref mP)] .bool),
 (219,zzu [.bool] dU),
 (220,zzu [du,I,I] dU),
 (221,zzu [(.slice I),I] I),
 (222,zzu [(.slice I),(.fn [I] .bool)] .bool),
 (223,zzu [I,(.ref I)] .bool),
 (224,zzu [mQ,I] I),
 (225,zzu [mQ] (.tup [I,I])),
 (226,zzu [Y21,I] dU),
 (227,zzu [I,(.slice dU)] dU),
 (228,zzu [(.slice (.slice I))] (.slice I)),
 (229,zzu [(.slice .str),I] I),
 (230,zzu [Y8,Y0] .bool),
 (231,zzu [Y5] .bool),
 (232,zzu [I] (.tup [I,I,I,I])),
 (233,zzu [I,I,I] (.tup [I,I])),
 (234,zzu [I,I] I),
 (235,zzu [Y0,I] (.tup [.bool,I])),
 (236,zzu [mQ] (.tup [I,I])),
 (237,zzu [I,(.slice dU)] dU),
 (238,zzu [dU,dU,I] dU),
 (239,zzu [I,I,I] dU),
 (241,zzu [I] (.tup [I,I,I])),
 (242,zzu [I,I,I] (.tup [I,I])),
 (243,zzu [I,I] I),
 (245,zzu [Y0,I] .bool),
 (246,zzu [(.slice jH),(.fn [jH] .bool)] I),
 (247,zzu [(.slice I),(.fn [I] .bool)] I),
 (248,zzu [mQ] (.tup [I,I])),
 (249,zzu [I] Y22),
 (250,zzu [I] (.tup [I,.bool])),
 (251,zzu [.bool] dU),
 (252,zzu [I] I),
 (253,zzu [I,I,I] I),
 (254,⟨[.nils .bool,I],(.slice I),(.row 3 I)⟩),
 (255,zzu [.str] .bool),
 (256,zzu [(.slice .str),I,.str] .bool),
 (257,zzu [(.slice I),I,I] .bool),
 (258,zzu [I] I),
 (259,zzu [I] .bool),
 (260,zzu [(.slice I),I] .bool),
 (261,zzu [I] I),
 (262,zzu [mQ] (.tup [I,I])),
 (263,zzu [I,(.slice I)] (.tup [I,.bool])),
 (264,zzu [I] (.tup [I,.bool])),
 (265,zzu [I] I),
 (266,zzu [.bool] dU),
 (267,zzu [I,I] I),
 (268,zzu [I,I,I] I),
 (269,zzu [I,I] I),
 (270,zzu [(.int .u8)] .bool)]
def Tn:List (Nat×CSig):=[
 (54,⟨[],[I],.bool⟩),
 (55,⟨[(.ref Y8)],[I],.bool⟩),
 (58,⟨[(.ref Y8)],[I],.bool⟩),
 (59,⟨[(.ref Y8)],[I],.bool⟩),
 (189,⟨[(.ref I)],[Y4],.bool⟩),
 (218,⟨[(.ref mP)],[jH],.bool⟩),
 (223,⟨[(.ref I)],[I],.bool⟩),
 (244,⟨[(.ref I),(.ref I),(.ref Y0)],[(.fn [I] .bool)],(.tup [])⟩)]
def ctx:Ctx:={P:=Tryz.prog,cap:=bV Tn,sig:=bV yf,azt:=λ_=>none,glob:=Z5 0 [6,7,10,12,13,14,15,16,20,21]}
abbrev QC (i:Nat):Sig:=(bV yf i).getD default
def cF (a b:List Nat)(f:Func)(i:Nat)(l:List Nat):Option PC:=mV {ctx with fr:=a,nh:=b} f (QC i) l
def aD {o:Option PC}{t:PT}{l:List (Shp×PT)}(h:o.map told=some (t,l)):tree (ab o)=t:=bk (F:=λ_=>(t,l)) h
def au (o:Option PC){p:PT×List (Shp×PT)}(h:o.map told=some p):o=some (ab o):=aDk (F:=λ_=>p) h
def aw (l a b:List Nat){f:Nat}{fn:Func}{c:PC}(h0:ctx.P.funcs[f]?=some fn)(h1:ctx.sig f=some (QC f))(h2:mV {ctx with fr:=a,nh:=b} fn (QC f) l=some c):∃fn s ids fr nh,ctx.P.funcs[f]?=some fn/\ctx.sig f=some s/\mV {ctx with fr:=fr,nh:=nh} fn s ids=some c:=⟨fn,QC f,l,a,b,h0,h1,h2⟩
abbrev ja:PE:=.con (.agg [(.int 0),(.int 0),(.int 0),(.int 0),(.int 0),(.int 0),(.int 0),(.int 0),(.int 0),(.int 0),(.int 0),(.int 0),(.int 0),(.int 0),(.int 0),(.list []),(.list []),(.list []),(.list [])])
abbrev xN:PE:=.ai .quo .i64 (aO (ay (aO (.ai .rem .i64 (ay r0 (pi 730425)) (pi 146097)) (.ai .quo .i64 (.ai .rem .i64 (ay r0 (pi 730425)) (pi 146097)) (pi 1460))) (.ai .quo .i64 (.ai .rem .i64 (ay r0 (pi 730425)) (pi 146097)) (pi 36524))) (.ai .quo .i64 (.ai .rem .i64 (ay r0 (pi 730425)) (pi 146097)) (pi 146096))) (pi 365)
abbrev kU:PE:=.con (.v (.string ⟨#[0,1,2,2,3,3,3,3,4,4,4,4,4,4,4,4,5,5,5,5,5,5,5,5,5,5,5,5,5,5,5,5,6,6,6,6,6,6,6,6,6,6,6,6,6,6,6,6,6,6,6,6,6,6,6,6,6,6,6,6,6,6,6,6,7,7,7,7,7,7,7,7,7,7,7,7,7,7,7,7,7,7,7,7,7,7,7,7,7,7,7,7,7,7,7,7,7,7,7,7,7,7,7,7,7,7,7,7,7,7,7,7,7,7,7,7,7,7,7,7,7,7,7,7,7,7,7,7,8,8,8,8,8,8,8,8,8,8,8,8,8,8,8,8,8,8,8,8,8,8,8,8,8,8,8,8,8,8,8,8,8,8,8,8,8,8,8,8,8,8,8,8,8,8,8,8,8,8,8,8,8,8,8,8,8,8,8,8,8,8,8,8,8,8,8,8,8,8,8,8,8,8,8,8,8,8,8,8,8,8,8,8,8,8,8,8,8,8,8,8,8,8,8,8,8,8,8,8,8,8,8,8,8,8,8,8,8,8,8,8,8,8,8,8,8,8,8,8,8,8,8,8,8,8,8,8]⟩))
abbrev cN:PE:=.con (.agg [(.bool false),(.int 0)])
abbrev mA:PE:=.setc (.setc (.setc ja 0 (.mk [(.mk [(pi 0),(pi 1),(pi 1),(pi 1000),(pi 0),(.mk [(pi 3),(pi 100),(pi 0)]),(pi 10),(pi 0),(pi 0),(pi (-1)),(pi 60),(pi 0),(pi 1)]),pL,pL,pL,pL])) 15 pN) 17 pN
abbrev tj:PE:=.ai .or .u64 (.ai .shl .u64 r0 (.conv .u64 hH)) (.ai .shr .u64 r1 (.ai .sub .u64 (.con (.v (.int .u64 64))) (.conv .u64 hH)))
abbrev Pr:PE:=.setc (.setc (.setc (.con (.agg [(.list []),(.list []),(.list []),(.list []),(.list []),(.list []),(.list []),(.list [])])) 0 (.mk [(.lst [(.con (.v (.string ⟨#[102,114,97,110,99]⟩))),(.con (.v (.string ⟨#[112,111,117,110,100]⟩)))]),(.lst [(.mk [(.con (.v (.string ⟨#[76,121,111,110]⟩))),(pi 0),(pi 0),pL,pL,pL]),(.mk [(.con (.v (.string ⟨#[76,111,110,100,111,110]⟩))),(pi 0),(pi 1),pL,pL,pL])]),(.lst [(.mk [(pi 0)])]),(.lst [(.mk [(.con (.v (.string ⟨#[65]⟩))),(pi 1),(pi 0)]),(.mk [(.con (.v (.string ⟨#[66]⟩))),(pi 0),(pi 0)])]),pL,pL,pL,pL])) 4 pN) 6 pN
abbrev tl:PE:=.ai .sub .u64 (.ai .add .u64 (.ai .mul .u64 bJ (.con (.v (.int .u64 4294967296)))) cK) (.ai .mul .u64 bZ r2)
abbrev nu:PE:=.ai .shr .u64 (.ai .shl .u64 r2 (.conv .u64 hH)) (.con (.v (.int .u64 32)))
abbrev O9:PE:=.ai .quo .i64 (ay (.ai .mul .i64 (pi 5) (aO (.ai .rem .i64 (ay r0 (pi 730425)) (pi 146097)) (aO (ay (.ai .mul .i64 (pi 365) xN) (.ai .quo .i64 xN (pi 4))) (.ai .quo .i64 xN (pi 100))))) (pi 2)) (pi 153)
abbrev tc:PE:=.deref (.con (.ref (.agg [(.int 6),(.int 7),(.int 10),(.int 12),(.int 13),(.int 14),(.int 15),(.int 16),(.int 20),(.int 21)])))
abbrev lQ:PE:=.setc z3 0 (.mk [(pc (.mk [r0]) 5),(pc (.mk [r0]) 6),(pc (.mk [r0]) 7)])
abbrev Pg:PE:=.put (.put (.put (.put (.con (.map [])) (pi 7) (aC (.ai .and .i64 (pc o6 13) (pi 1)) (pi 0))) (pi 8) (ae (pc o6 2) (pi (-1)))) (pi 9) (aC (.ai .and .i64 (pc o6 13) (pi 4)) (pi 0))) (pi 10) (aC (.ai .and .i64 (pc o6 13) (pi 2)) (pi 0))
abbrev HP:PE:=.con (.agg [(.int 0),(.int 0),(.int 0),(.int 0),(.int 0),(.int 0),(.int 0),(.int 0),(.int 0),(.int 0),(.int 0),(.int 0),(.int 0),(.int 0),(.int 0),(.list []),(.list []),(.list []),(.list []),(.int 0),(.int 0),(.int 0),(.int 0),(.int 0)])
abbrev kT:PE:=.con (.v (.int .u64 4294967296))
abbrev Ph:PE:=.pick (.pick lV (.nt g9) pF) (.pick (aS (pc (.pick (aj (pc o9 1) (pi 0)) (.setc o9 1 (pi 0)) o9) 1) (pi 20000)) (.setc (.pick (aj (pc o9 1) (pi 0)) (.setc o9 1 (pi 0)) o9) 1 (pi 20000)) (.pick (aj (pc o9 1) (pi 0)) (.setc o9 1 (pi 0)) o9)) o9
abbrev kr:PE:=.setc (.mk [r3]) 18 pL
abbrev XR:PE:=.mk [(pc (.mk [r0]) 10),(pc (.mk [r0]) 11),(pc (.mk [r0]) 12),(pc (.mk [r0]) 13),(pc (.mk [r0]) 14),(pc (.mk [r0]) 15),(pc (.mk [r0]) 16),(pc (.mk [r0]) 17),(pc (.mk [r0]) 18),(pc (.mk [r0]) 19),(pc (.mk [r0]) 20),(pc (.mk [r0]) 21),(pc (.mk [r0]) 22),(pc (.mk [r0]) 23),(pc (.mk [r0]) 24),(pc (.mk [r0]) 25),(pc (.mk [r0]) 26),(pc (.mk [r0]) 27),(pc (.mk [r0]) 28)]
abbrev lR:PE:=.con (.v (.int .u64 32))
abbrev ns:PE:=.con (.agg [(.int 0),(.int 0),(.list [])])
abbrev vk:PE:=.mk [(pc (.setc o4 0 (.mk [pF,(pi 0)])) 0),(pc (.setc o4 0 (.mk [pF,(pi 0)])) 1)]
abbrev cJ:PE:=pi 4294967296
abbrev XS:PE:=.con (.agg [(.list []),(.list []),(.list []),(.list []),(.list []),(.list []),(.list []),(.list []),(.int 0),(.int 0),(.int 0),(.int 0),(.int 0),(.int 0),(.int 0),(.int 0),(.int 0),(.int 0),(.int 0),(.int 0),(.int 0),(.int 0),(.int 0),(.int 0),(.int 0),(.list []),(.list []),(.list []),(.list []),(.int 0),(.int 0)])
abbrev xO:PE:=.con (.agg [(.int 0),(.int 0),(.int 0),(.int 0),(.int 0),(.int 0),(.bool false)])
abbrev vl:PE:=.con (.agg [(.int 0),(.int 0),(.bool false)])
abbrev vm:PE:=.con (.agg [(.bool false),(.int 0),(.int 0),(.list []),(.int 0)])
abbrev lS:PE:=.con (.agg [(.list []),(.int 0)])
abbrev pg:PE:=.con (.v (.int .u64 4294967295))
abbrev alV:PE:=.setc o6 0 (.mk [(.pick r0 (aO (pi 0) (ay (ay (pn r9 (pi 0)) (.ai .mul .i64 (pi 1073741824) (pn r9 (pi 1)))) (.ai .mul .i64 (pi 1152921504606846976) (pn r9 (pi 2))))) (ay (ay (pn r9 (pi 0)) (.ai .mul .i64 (pi 1073741824) (pn r9 (pi 1)))) (.ai .mul .i64 (pi 1152921504606846976) (pn r9 (pi 2))))),(ay (ay (pn bJ (pi 0)) (.ai .mul .i64 (pi 1073741824) (pn bJ (pi 1)))) (.ai .mul .i64 (pi 1152921504606846976) (pn bJ (pi 2))))])
abbrev AF:PE:=.setc z3 0 (.mk [(pc (.mk [r1]) 5),(pc (.mk [r1]) 6),(pc (.mk [r1]) 7)])
abbrev jb:PE:=pi 1099511627776
abbrev qm:PE:=.setc z9 0 (pn (pc (.mk [r1]) 15) r2)
abbrev xP:PE:=.mk [(pc (.setc cN 0 eP) 0),(pc (.setc cN 0 eP) 1)]
abbrev gJ:PE:=pc (.mk [r0]) 1
abbrev fU:PE:=ar 8 (.mk [r0])
abbrev fL:PE:=pc (.mk [r0]) 0
abbrev DW:PE:=.setc z9 0 (pn (pc (.mk [r2]) 15) (pc (.mk [r2]) 19))
abbrev rA:PE:=.conv .u64 hH
abbrev XT:PE:=.put (.put (.put (.con (.map [])) (pi 0) (pc o6 3)) (pi 1) (pc o6 14)) (pi 2) (pc o6 5)
abbrev Pj:PE:=.pick (.pick (ae (.tget mE 0) (pi 0)) (pc bP 0) pF) (.setc bP 1 (.mn (.mx (pc bP 1) (pi 0)) (pi 20000))) bP
abbrev vn:PE:=.an (aN (pi 5) (pi 0)) (aY (pi 5) cJ)
abbrev HT:PE:=ay (aO (ay (.ai .mul .i64 (pi 12) (.tget dR 0)) (.tget dR 1)) (pi 1)) r1
abbrev Pk:PE:=.con (.agg [(.list []),(.list []),(.list []),(.list []),(.list []),(.list []),(.list []),(.list [])])
abbrev Pl:PE:=.ai .shr .u64 (.ai .sub .u64 (.ai .add .u64 (.ai .mul .u64 dR kT) cn) (.ai .mul .u64 cR r2)) r8
abbrev alW:PE:=.mk [(.mk [(pc kr 0),(pc kr 1),(pc kr 2),(pc kr 3),(pc kr 4),(pc kr 5),(pc kr 6),(pc kr 7),(pc kr 8),(pc kr 9),(pc kr 10),(pc kr 11),(pc kr 12),(pc kr 13),(pc kr 14),(pc kr 15),(pc kr 16),(pc kr 17),pL]),(pi 0),(pi (-1)),(pi (-1)),(pi (-1)),r4]
abbrev AG:PE:=.setc (.setc bP 3 (.tget xX 0)) 4 (.tget xX 1)
abbrev ph:PE:=.con (.v (.int .u64 0))
abbrev xQ:PE:=.setc ja 0 (ar 19 (.mk [r1]))
abbrev vp:PE:=.ai .shr .u64 r0 lR
abbrev xR:PE:=.con (.v (.int .u64 16))
abbrev vq:PE:=pc (.mk [r0]) 2
abbrev Pm:PE:=.mk [(pc (.setc cN 0 (.mk [pF,(pi 0)])) 0),(pc (.setc cN 0 (.mk [pF,(pi 0)])) 1)]
abbrev qn:PE:=.con (.v (.int .u64 8))
abbrev alX:PE:=ay (.ai .mul .i64 (.ai .quo .i64 r0 (.ai .mul .i64 (pi 1000) r4)) (.ai .mul .i64 r1 (aO r3 r2))) (.ai .quo .i64 (.ai .mul .i64 (.ai .rem .i64 r0 (.ai .mul .i64 (pi 1000) r4)) (.ai .mul .i64 r1 (aO r3 r2))) (.ai .mul .i64 (pi 1000) r4))
abbrev Pn:PE:=.mk [(pc (.setc o6 0 (.mk [pF,(pi 0)])) 0),(pc (.setc o6 0 (.mk [pF,(pi 0)])) 1)]
abbrev Po:PE:=ay (aO (ay (.ai .mul .i64 (pi 12) (.tget fa 0)) (.tget fa 1)) (pi 1)) r1
abbrev Pp:PE:=aS (.mx r0 (aO (pi 0) r0)) (.ai .quo .i64 jb (.mx r1 (aO (pi 0) r1)))
abbrev XU:PE:=.setc (.setc (.setc o9 3 (.tget ku 0)) 4 (.tget ku 1)) 2 (pn (.tget ku 0) (aO (.llen (.tget ku 0)) (pi 1)))
abbrev jA:PE:=pn r1 (pi 0)
abbrev pj:PE:=.rep (pi 5) (pi 0)
abbrev XV:PE:=.pick (aN cR kT) pT (aS (.ai .mul .u64 cR aZ) (.ai .add .u64 (.ai .mul .u64 kT cq) cn))
abbrev XW:PE:=.pick (aN bZ kT) pT (aS (.ai .mul .u64 bZ aZ) (.ai .add .u64 (.ai .mul .u64 kT cq) cK))
abbrev mB:PE:=.llen (pc o1 1)
abbrev XX:PE:=.mk [(pc (.setc o4 0 (.mk [(pi 0),(pi 0),pL])) 0),(pc (.setc o4 0 (.mk [(pi 0),(pi 0),pL])) 1),pL]
abbrev Pq:PE:=.ai .sub .u64 tj (.ai .mul .u64 (.ai .quo .u64 tj nu) nu)
abbrev mC:PE:=pn bK cn
abbrev HU:PE:=pc (pn gJ (pc (pn (pc (.mk [r0]) 3) r2) 1)) 2
abbrev lT:PE:=pi 1073741824
abbrev pk:PE:=pc (.mk [r0]) 15
abbrev Ps:PE:=.ai .sub .u64 tl (.ai .mul .u64 (.ai .quo .u64 tl r9) r9)
abbrev kV:PE:=pn r1 (pi 1)
abbrev HV:PE:=.setc z9 0 (pn (pc (.setc ja 0 cR) 15) r3)
abbrev XY:PE:=.mk [(pc (.setc z2 0 (.mk [(pi 0),(pi 0)])) 0),(pc (.setc z2 0 (.mk [(pi 0),(pi 0)])) 1)]
abbrev Pt:PE:=aN (.ai .sub .u64 (.con (.v (.int .u64 64))) rA) (pi 0)
abbrev XZ:PE:=.mk [(pc (.setc cN 0 (.mk [pT,(pi 1)])) 0),(pc (.setc cN 0 (.mk [pT,(pi 1)])) 1)]
abbrev X0:PE:=.mk [(pc (.setc cN 0 (.mk [pT,(pi 0)])) 0),(pc (.setc cN 0 (.mk [pT,(pi 0)])) 1)]
abbrev po:PE:=.llen (pc o1 3)
abbrev pq:PE:=.llen (pc o1 2)
abbrev X1:PE:=ar 5 (.setc o8 0 (.mk [(pc bP 0),(pc bP 1),(pc bP 2),(.o 16394),(pc bP 4)]))
abbrev pv:PE:=ay r8 (pi 1)
abbrev px:PE:=ay r5 (pi 1)
abbrev xS:PE:=pc (.mk [r1]) 1
abbrev qo:PE:=.llen (pc o3 2)
abbrev qp:PE:=.llen (pc o1 4)
abbrev alY:PE:=.pick (.pick (.pick (aj (pc DW 2) (pi 0)) pT (aN (pc DW 2) (.llen (pc (.mk [r0]) 3)))) pT (aj r1 (pi 0))) pT (aN r1 (.llen (pc (.mk [r0]) 4)))
abbrev X2:PE:=.put (.con (.map [])) (pi 7) (aC (.ai .and .i64 (pc o6 13) (pi 1)) (pi 0))
abbrev xT:PE:=.ai .shl .u64 r2 rA
abbrev xU:PE:=.ai .shl .u64 r1 rA
abbrev alZ:PE:=.ai .add .u64 (.ai .mul .u64 vp (.ai .and .u64 r1 pg)) (.ai .shr .u64 (.ai .mul .u64 (.ai .and .u64 r0 pg) (.ai .and .u64 r1 pg)) lR)
abbrev HW:PE:=.setc z9 0 (pn (pc (.mk [r0]) 25) r1)
abbrev al0:PE:=.setn dR (pi 0) 0 (ay (pn dR (pi 0)) (.ai .rem .i64 (.ai .shr .i64 (pn r0 (.ai .quo .i64 r8 (pi 30))) (.ai .rem .i64 r8 (pi 30))) (pi 2)))
abbrev rB:PE:=.llen (pc o4 4)
abbrev HX:PE:=.setc rp 2 (.mn (pc rp 2) jb)
abbrev al1:PE:=.pick (.pick (ae (.tget gK 0) ph) (aj (.tget gK 1) (.con (.v (.int .u64 1099511627776)))) pF) (.conv .i64 (.tget gK 1)) jb
abbrev HY:PE:=aO (pi 2) (pc (pn o7 (pi 0)) 1)
abbrev vt:PE:=ae (pi 5) (pi 5)
abbrev al2:PE:=.pick (.pick (.pick (.pick (aj r0 (pi 2000)) pT (aS r0 (pi 2300))) pT (aj r1 (pi 1))) pT (aS r1 (pi 12))) pT (aj r2 (pi 1))
abbrev Pu:PE:=.setc ns 0 (.sub (pn (pc o2 3) fa) 1 3)
abbrev al3:PE:=.app o2 (.lst [(pc (.setc (.con (.agg [(.v (.string ⟨#[]⟩)),(.int 0),(.int 0),(.list []),(.list []),(.list [])])) 0 mC) 0)])
abbrev Pa:PE:=.ai .add .u64 (.ai .mul .u64 bZ kT) cR
abbrev alJ:PE:=.pick (.pick (.pick (aj (pc bP 0) (pi 0)) pT (aN (pc bP 0) (pi 5))) pT (aj (pc bP 2) (pi 0))) pT (aN (pc bP 2) (pi 2))
abbrev XM:PE:=.ai .mul .u64 (.conv .u64 xS) (.conv .u64 (pc (.mk [r2]) 1))
abbrev alK:PE:=.pick (.pick (ae (pc (.setc z5 0 mC) 0) r1) (ae (pc (.setc z5 0 mC) 1) r2) pF) (aY (pc (.setc z5 0 mC) 4) r3) pF
abbrev alL:PE:=.pick (.pick (ae (pc (.setc z3 0 mC) 0) r1) (aY (pc (.setc z3 0 mC) 1) r2) pF) (aY r2 (pc (.setc z3 0 mC) 2)) pF
abbrev ql:PE:=pn o5 (pi 0)
abbrev pf:PE:=aj cn cK
abbrev rv:PE:=ao r1 (pi 1)
abbrev vg:PE:=.tget kX 0
abbrev Pb:PE:=.pick (aj r1 (pi 3)) (aO r0 (pi 1)) r0
abbrev alM:PE:=.app o4 (.lst [(pc (.setc (.con (.agg [(.v (.string ⟨#[]⟩)),(.bool false),(.list []),(.list [])])) 0 (pn jW nv)) 0)])
abbrev td:PE:=ay r7 (pi 1)
abbrev Pc:PE:=.cb .neq (aj r0 (pi 0)) (aj r1 (pi 0))
abbrev alN:PE:=.put (.put (.put Pg (pi 11) (aC H3 H4)) (pi 12) cK) (pi 13) (aC (.ai .and .i64 (pc o8 8) (pi 1)) (pi 0))
abbrev vh:PE:=pc (.mk [r1]) 0
abbrev xI:PE:=ar 19 (.mk [r2])
abbrev alO:PE:=.setc z2 0 (.mk [(.pick r0 (aO (pi 0) (.conv .i64 xS)) (.conv .i64 xS)),(.conv .i64 (pc (.mk [r2]) 1))])
abbrev ry:PE:=pn o5 (pi 1)
abbrev AA:PE:=aC (pi 100) (pi 0)
abbrev tg:PE:=ao r1 (pi 0)
abbrev Pd:PE:=.setc z9 0 (pn (pc o5 15) (pc o5 19))
abbrev Pe:PE:=aO (aO (pn r0 r7) (pn r1 r7)) r6
abbrev vi:PE:=ay r3 (pi 1)
abbrev XN:PE:=.put (.put XT (pi 3) (pc o6 12)) (pi 4) (pc o8 0)
abbrev alP:PE:=.pick (aS (.llen (pc (pn (pc o1 1) r3) 4)) (pi 70)) pT (aS (.llen (pc (pn (pc o1 1) r3) 5)) (pi 210))
abbrev Pf:PE:=.mk [(pc o1 0),(pc o1 1),(pc o1 2)]
abbrev HL:PE:=.setc vl 0 (pn fa dZ)
abbrev rz:PE:=.llen vq
abbrev alQ:PE:=.app o3 (.lst [(pc (.setc (.con (.agg [(.v (.string ⟨#[]⟩)),(.int 0),(.int 0)])) 0 (pn dZ eP)) 0)])
abbrev alR:PE:=.app o4 (.lst [(pc (.setc (.con (.agg [(.int 0),(.int 0),(.int 0),(.list [])])) 0 (pn eP lV)) 0)])
abbrev xJ:PE:=pc (.mk [r0]) 5
abbrev xK:PE:=pc (.mk [r0]) 4
abbrev xL:PE:=.llen (pc o1 0)
abbrev alS:PE:=.app (.o 69637) (.lst [(.mk [(pc (.setc z2 0 (pn rE tq)) 0),(pc (.setc z2 0 (pn rE tq)) 1)])])
abbrev HM:PE:=aj r6 (.llen (pc o2 17))
abbrev HN:PE:=aj r5 (.llen (pc o2 15))
abbrev vj:PE:=aN r0 (pi 0)
abbrev HO:PE:=.ai .shr .u64 vp xR
abbrev DV:PE:=.ai .add .u64 cq r9
abbrev XO:PE:=.setc z9 0 (pn (pc xQ 15) (pc (.mk [r1]) 19))
abbrev XP:PE:=.setc o4 0 (.mk [(pc o9 0),(pc o9 1),(pc o9 2)])
abbrev XQ:PE:=.setc (.setc o6 4 (.tget jD 0)) 5 (.tget jD 1)
abbrev alT:PE:=.pick (aS (ay O9 (pi 3)) (pi 12)) (aO (ay O9 (pi 3)) (pi 12)) (ay O9 (pi 3))
abbrev HQ:PE:=aC (pc o3 22) (pi (-1))
abbrev HR:PE:=.setc z2 0 (.tget tn 0)
abbrev alU:PE:=.pick (.nt (.nt (.an (.an cn pT) (.nt pF)))) (.app (.o 1000) (.lst [(.tup [r5])])) (.o 1000)
abbrev HS:PE:=.app dK (.lst [vg])
abbrev xM:PE:=ay r6 (pi 1)
abbrev AB:PE:=pn (pc o3 7) aZ
abbrev th:PE:=.tget kW 0
abbrev AD:PE:=.setc cN 0 lU
abbrev AE:PE:=.llen (pc o2 16)
end Rm
