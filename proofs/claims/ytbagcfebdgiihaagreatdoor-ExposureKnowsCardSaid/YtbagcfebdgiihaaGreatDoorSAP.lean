/-
  Shared texts of this claim.
-/
import Derived.Test.YtbagcfebdgiihaaGreatDoorSAO
import Derived.Test.YtbagcfebdgiihaaGreatDoorSAN
import Derived.KernelRfl
set_option linter.unusedSimpArgs false
set_option linter.unusedVariables false
noncomputable section
namespace Rm
open Go Go.Proofs Cx
structure MoreF (f g:File):Prop where
 same:SameF f g
 le:∀k s,iZ (cU f k s) (cU g k s)
theorem MoreF.at_ {f g:File}(h:MoreF f g)(day:Int):MoreF (cO f day) (cO g day):=by
 refine⟨h.same.at_ day,fun k s=>?_⟩;rw[UD,UD,h.same.signs];split
 ·exact h.le k s
 ·exact .no _
theorem Qb {v:View}{g:File}(h:MoreF v.file g)(q s:Int)(hn:bY v q s≠2):bY (dK v g) q s=bY v q s:=by
 unfold bY at*;have hm:=aco v.realm v.forum q (c:=⟨v.file,s,s,-1,v.due,v.day⟩) h.same ⟨fun k=>(h.at_ v.day).le k _,fun k=>(h.at_ v.day).le k _⟩;exact arO hm.1 hm.2 hn
theorem WI (a b c:Int)(ha:a=0∨a=1∨a=2)(hb:b=0∨b=1∨b=2)(hc:c=0∨c=1∨c=2):jo [a,b,c] 1=if a=0∨b=0∨c=0 then 0 else if a=2∨b=2∨c=2 then 2 else 1:=by
 rcases ha with rfl|rfl|rfl<;>rcases hb with rfl|rfl|rfl<;>rcases hc with rfl|rfl|rfl<;>decide
theorem D0 (x:Said):m5 x=0∨m5 x=1∨m5 x=2:=by
 unfold m5
 repeat' split
 all_goals simp
def Ga (a b:Effect):Bool:=(decide (a.binds=2)||decide (b.binds=a.binds))&&(decide (a.text=2)||decide (b.text=a.text))&&decide (a.sum≤b.sum)&&decide (a.recourse=b.recourse)
theorem aeK {v:View}{g:File}(h:MoreF v.file g)(s:Int)(GC:v.form=0∨v.form=1∨v.form=2):Ga (mw v s) (mw (dK v g) s)=true:=by
 have m1:=Qb h 1 s;have m2:=Qb h 2 s;have m4:=Qb h 4 s;have t1:bY v 1 s=0∨bY v 1 s=1∨bY v 1 s=2:=D0 _;have t2:bY v 2 s=0∨bY v 2 s=1∨bY v 2 s=2:=D0 _;have u1:bY (dK v g) 1 s=0∨bY (dK v g) 1 s=1∨bY (dK v g) 1 s=2:=D0 _;have u2:bY (dK v g) 2 s=0∨bY (dK v g) 2 s=1∨bY (dK v g) 2 s=2:=D0 _;have e1:(dK v g).file.alters=v.file.alters:=h.same.alters;have e2:mq (dK v g).file s v.file.alters.length=mq v.file s v.file.alters.length:=by unfold mq;rw[e1]
 have e3:sQ (dK v g).file=sQ v.file:=by unfold sQ;rw[e1]
 have e4:=apr (g:=(dK v g).file) h.same s v.file.alters.length;have es:=apm (g:=(dK v g).file) h.same s v.day;have hb:jo [v.form,bY v 1 s,bY v 2 s] 1=2∨jo [v.form,bY (dK v g) 1 s,bY (dK v g) 2 s] 1=jo [v.form,bY v 1 s,bY v 2 s] 1:=by
  rw[WI _ _ _ GC t1 t2,WI _ _ _ GC u1 u2];generalize bY v 1 s=a1 at*;generalize bY v 2 s=a2 at*;generalize bY (dK v g) 1 s=b1 at*;generalize bY (dK v g) 2 s=b2 at*
  repeat' split
  all_goals omega
 have ht:((kB v s).1=2∨(kB (dK v g) s).1=(kB v s).1)∧(kB v s).2≤(kB (dK v g) s).2:=by
  unfold kB;rw[e1,e2,e3,e4];split
  ·exact⟨.inr rfl,Ea _⟩
  generalize lg v.file s v.file.alters.length=x at*;generalize sQ v.file=y at*;generalize bY v 4 s=a at*;generalize bY (dK v g) 4 s=b at*;by_cases ha:a=2
  ·subst ha;rw[if_neg (by decide),if_pos rfl];refine⟨.inl rfl,?_⟩
   repeat' split
   all_goals simp
   all_goals omega
  ·have:=m4 ha;subst this;exact⟨.inr rfl,Ea _⟩
 unfold Ga mw;simp only[show(dK v g).file.signs=v.file.signs from h.same.signs,show(dK v g).day=v.day from rfl,show(dK v g).form=v.form from rfl,es];generalize kB v s=tx at*;generalize kB (dK v g) s=ty at*;generalize jo [v.form,bY v 1 s,bY v 2 s] 1=ja at*;generalize jo [v.form,bY (dK v g) 1 s,bY (dK v g) 2 s] 1=jb at*;obtain⟨h1,h2⟩:=ht;simp only[aq,jy,decide_eq_true_eq];refine⟨⟨⟨?_,h1⟩,?_⟩,trivial⟩
 ·split
  ·exact .inr rfl
  ·exact hb
 ·split<;>omega
end Rm
namespace Rm
open Go Cx
end Rm
namespace Rm
open Go Go.Proofs Cx
end Rm
namespace Rm
open Go Go.Proofs Cx
def KN (a:Act):Bool:=decide (a.kind=4)||decide (a.kind=5)
structure SumsOK (f:File):Prop where
 bill:1≤f.bill.sum∧f.bill.sum≤1099511627776
 rate:0≤f.bill.rate∧f.bill.rate≤1000
 alters:∀a,a∈f.alters→1≤a.sum∧a.sum≤1099511627776
 signs:∀s,s∈f.signs→s.kind=1∨s.kind=4→1≤s.sum∧s.sum≤1099511627776
end Rm
namespace Rm
open Go Go.Proofs Cx
end Rm
namespace Rm
open Go Go.Proofs Cx
structure RealmOK (r:Realm):Prop where
 rates:∀x,x∈r.rates→(1≤x.num∧x.num≤1073741824)∧1≤x.den∧x.den≤1073741824
 firms:∀x,x∈r.firms→0≤x.city∧x.city<r.cities.length
theorem aop {r:Realm}(h:ix r=0):RealmOK r:=by
 unfold ix at h;rw[DP] at h;refine⟨fun x hx=>?_,fun x hx=>?_⟩
 ·obtain⟨k,hk,rfl⟩:=fj hx;have h1:=h (pZ r) (by simp);unfold pZ at h1;split at h1
  ·cases h1
  split at h1
  ·cases h1
  rename_i aR;have h2:=Ai.1 (by simpa using aR) k hk;simp[CZ,wi,hk] at h2;omega
 ·obtain⟨k,hk,rfl⟩:=fj hx;have h1:=h (jH (nZ r) 200 (qJ r)) (by simp);unfold jH at h1;split at h1
  ·cases h1
  have h2:=F4.1 h1 k (by simpa [nZ] using hk);have h3:=(Ld h2).2;simp[qJ,aC,hk] at h3;omega
end Rm
namespace Rm
open Go Go.Proofs Cx
@[simp] theorem aye:D.none.b=false:=_root_.id rfl
theorem ec (n a b:Int):ak T 65 [.int n,.int a,.int b] (.bool (wi n a b)):=by
 refine .of_tree rfl (lA 42 (by kernel_rfl)) aqB ?_;simp[Ra];by_cases h:a≤n<;>simp[wi,h]
theorem mf (n m:Int):ak T 104 [.int n,.int m] (.bool (aC n m)):=by
 refine .of_tree rfl (lA 38 (by kernel_rfl)) arM ?_;simp[Sd];by_cases h:0≤n<;>simp[aC,h]
def Je (b:Bill):Bool:=
 if b.tenor.kind=0∨b.tenor.kind=4 then decide (b.tenor.n=0)&&decide (b.tenor.unit=0)
 else if b.tenor.kind=1∨b.tenor.kind=2 then(decide (1≤b.tenor.n)&&decide (b.tenor.n≤400))&&(decide (b.tenor.unit=0)||decide (b.tenor.unit=1))
 else if b.tenor.kind=3 then(decide (b.day≤b.tenor.n)&&decide (b.tenor.n≤100000))&&decide (b.tenor.unit=0)
 else false
theorem asb (b:Bill):ak T 105 [dV b] (.bool (Je b)):=by
 refine .of_tree rfl (lA 39 (by kernel_rfl)) arN ?_;unfold Je;simp[Se];by_cases h0:b.tenor.kind=0
 ·by_cases h1:b.tenor.n=0<;>simp[h0,h1]
 by_cases h4:b.tenor.kind=4
 ·by_cases h1:b.tenor.n=0<;>simp[h4,h1]
 simp[h0,h4];by_cases k1:b.tenor.kind=1
 ·by_cases h1:1≤b.tenor.n<;>by_cases h2:b.tenor.n≤400<;>by_cases h3:b.tenor.unit=0<;>simp[k1,h1,h2,h3]
 by_cases k2:b.tenor.kind=2
 ·by_cases h1:1≤b.tenor.n<;>by_cases h2:b.tenor.n≤400<;>by_cases h3:b.tenor.unit=0<;>simp[k2,h1,h2,h3]
 simp[k1,k2];by_cases k3:b.tenor.kind=3
 ·by_cases h1:b.day≤b.tenor.n<;>by_cases h2:b.tenor.n≤100000<;>simp[k3,h1,h2]
 simp[k3]
def rj (n m:Int):Bool:=decide (n=-1)||aC n m
def wA (r:Realm)(b:Bill):Bool:=((aC b.drawer r.firms.length&&aC b.drawee r.firms.length)&&rj b.payee r.firms.length)&&rj b.need r.firms.length
def tM (r:Realm)(b:Bill):Bool:=(aC b.currency r.currencies.length&&aC b.city r.cities.length)&&aC b.pay r.cities.length
def zp (b:Bill):Prop:=((((1≤b.sum∧b.sum≤1099511627776)∧0≤b.day)∧b.day≤100000)∧0≤b.rate)∧b.rate≤1000
def Lh (b:Bill):Prop:=((0≤b.flags∧b.flags≤7)∧(cj .and .i64 b.flags 4=0∨¬b.payee=-1))∧Je b=true
structure BillOK (r:Realm) (b:Bill):Prop where
 realm:ix r=0
 who:wA r b=true
 where_:tM r b=true
 range:zp b
 parts:1≤b.parts∧b.parts≤4
 form:Lh b
 usance:b.tenor.kind=4→∃u,u∈r.usances∧u.fr=b.city∧u.to=b.pay
def ni (P:Prop)(d:D):Prop:=∃e:Int,d=.int e∧(e=0↔P)
theorem ni.no {P:Prop}{e:Int}(h:¬P)(he:e≠0):ni P (.int e):=⟨e,rfl,fun x=>absurd x he,fun x=>absurd x h⟩
theorem ni.ok {P:Prop}(h:P):ni P (.int 0):=⟨0,rfl,fun _=>h,fun _=>rfl⟩
theorem asa (r:Realm)(hs:Small r)(b:Bill):∃d,ak T 63 [bA r,dV b] d∧ni (BillOK r b) d:=by
 refine ak.ex_of_tree rfl acA arL ?_;simp[Sc];refine⟨_,PZ r hs,?_⟩;by_cases h0:ix r=0
 case neg=>
  simp[h0];exact .no (fun h=>h0 h.realm) h0
 simp[h0];refine⟨_,mf _ _,?_⟩;cases h1:aC b.drawer r.firms.length
 ·simp;exact .no (fun h=>by simpa [wA,h1] using h.who) (by decide)
 simp;refine⟨_,mf _ _,?_⟩;cases h2:aC b.drawee r.firms.length
 ·simp;exact .no (fun h=>by simpa [wA,h2] using h.who) (by decide)
 by_cases h3:rj b.payee r.firms.length=true
 case neg=>
  have j8:¬b.payee=-1∧aC b.payee r.firms.length=false:=by simpa [rj] using h3
  simp[j8.1];refine⟨_,mf _ _,?_⟩;simp[j8.2];exact .no (fun h=>h3 (by have:=h.who;simp[wA] at this;exact this.1.2)) (by decide)
 by_cases h4:rj b.need r.firms.length=true
 case neg=>
  have nL:¬b.need=-1∧aC b.need r.firms.length=false:=by simpa [rj] using h4
  have eG:ni (BillOK r b) (.int 1):=.no (fun h=>h4 (by have:=h.who;simp[wA] at this;exact this.2)) (by decide);by_cases hp:b.payee=-1
  ·simp[hp,nL.1];refine⟨_,mf _ _,?_⟩;simp[nL.2];exact eG
  ·have j8:aC b.payee r.firms.length=true:=by simpa [rj,hp] using h3
   simp[hp];refine⟨_,mf _ _,?_⟩;simp[j8,nL.1];refine⟨_,mf _ _,?_⟩;simp[nL.2];exact eG
 have G8:wA r b=true:=by simp[wA,h1,h2,h3,h4]
 have hp:b.payee=-1∨(¬b.payee=-1∧aC b.payee r.firms.length=true):=by
  by_cases e:b.payee=-1
  ·exact .inl e
  ·exact .inr ⟨e,by simpa [rj,e] using h3⟩
 have hn:b.need=-1∨(¬b.need=-1∧aC b.need r.firms.length=true):=by
  by_cases e:b.need=-1
  ·exact .inl e
  ·exact .inr ⟨e,by simpa [rj,e] using h4⟩
 have bad:¬tM r b=true→ni (BillOK r b) (.int 1):=fun h=>.no (fun k=>h k.where_) (by decide);have fin:∀u:Int,(u=0↔∃u,u∈r.usances∧u.fr=b.city∧u.to=b.pay)→zp b→(1≤b.parts∧b.parts≤4)→Lh b→tM r b=true→ni (BillOK r b) (if b.tenor.kind=4 then .int u else .int 0):=by
  intro u hu h6 h7 h8 h9;by_cases e:b.tenor.kind=4
  ·rw[if_pos e];exact⟨u,rfl,fun h=>⟨h0,G8,h9,h6,h7,h8,fun _=>hu.1 h⟩,fun h=>hu.2 (h.usance e)⟩
  ·rw[if_neg e];exact .ok ⟨h0,G8,h9,h6,h7,h8,fun h=>absurd h e⟩
 obtain⟨un,ue,hu1,_,hu2⟩:=Tg r b.city b.pay (by have:=hs.us;omega);rcases hp with hp|⟨hp,eH⟩<;>rcases hn with hn|⟨hn,nR⟩
 case' inl.inl=>simp[hp,hn]
 case' inl.inr=>simp[hp,hn];refine⟨_,mf _ _,?_⟩;simp[nR]
 case' inr.inl=>simp[hp,hn];refine⟨_,mf _ _,?_⟩;simp[eH]
 case' inr.inr=>simp[hp,hn];refine⟨_,mf _ _,?_⟩;simp[eH];refine⟨_,mf _ _,?_⟩;simp[nR]
 all_goals
  refine⟨_,mf _ _,?_⟩;cases h5:aC b.currency r.currencies.length
  ·simp;exact bad (by simp[tM,h5])
  simp;refine⟨_,mf _ _,?_⟩;cases h6:aC b.city r.cities.length
  ·simp;exact bad (by simp[tM,h6])
  simp;refine⟨_,mf _ _,?_⟩;cases h7:aC b.pay r.cities.length
  ·simp;exact bad (by simp[tM,h7])
  have Cj:tM r b=true:=by simp[tM,h5,h6,h7]
  simp;by_cases h8:zp b
  case neg=>
   have Ln:((((b.sum<1∨1099511627776<b.sum)∨b.day<0)∨100000<b.day)∨b.rate<0)∨1000<b.rate:=by unfold zp at h8;omega
   rw[if_pos Ln];exact .no (fun k=>h8 k.range) (by decide)
  have Ln:¬(((((b.sum<1∨1099511627776<b.sum)∨b.day<0)∨100000<b.day)∨b.rate<0)∨1000<b.rate):=by unfold zp at h8;omega
  rw[if_neg Ln];by_cases h9:1≤b.parts∧b.parts≤4
  case neg=>
   rw[if_pos (by omega)];exact .no (fun k=>h9 k.parts) (by decide)
  rw[if_neg (by omega)];have JY:¬Lh b→ni (BillOK r b) (.int 2):=fun h=>.no (fun k=>h k.form) (by decide);by_cases g1:0≤b.flags∧b.flags≤7
  case neg=>
   have iI:b.flags<0∨7<b.flags:=by omega
   simp[g1,iI];exact JY (fun h=>g1 h.1.1)
  have iI:¬(b.flags<0∨7<b.flags):=by omega
  by_cases g2:cj .and .i64 b.flags 4=0∨¬b.payee=-1
  case neg=>
   have sf:¬cj .and .i64 b.flags 4=0∧b.payee=-1:=by simpa using g2
   first
        |exact absurd sf.2 hp
        |(simp[g1,iI,sf]
          exact JY (fun h=>g2 h.1.2))
  have g3:(b.payee=-1→cj .and .i64 b.flags 4=0):=fun e=>g2.resolve_right (fun h=>h e);simp[g1,iI,hp,g3];refine⟨_,asb b,?_⟩;cases gj:Je b
  ·simp;exact JY (fun h=>by have:=h.2;rw[gj] at this;cases this)
  have hf:=fin ue hu2 h8 h9 ⟨⟨g1,g2⟩,gj⟩ Cj;simp;by_cases e:b.tenor.kind=4
  ·simp[e] at hf ⊢;exact⟨_,hu1,hf⟩
  ·simp[e] at hf ⊢;exact hf
end Rm
namespace Rm
open Go Go.Proofs Cx
def zH (f:File)(i part:Int):Bool:=decide (i=0)||decide ((dS f i).part=part)
theorem Zp (f:File)(i part:Int)(h:i=0∨(0≤i∧i<f.signs.length)):ak T 163 [cB f,.int i,.int part] (.bool (zH f i part)):=by
 refine .of_tree rfl (lA 45 (by kernel_rfl)) aqD ?_;unfold zH;by_cases h0:i=0
 ·simp[Jn,h0]
 ·obtain⟨h1,h2⟩:=h.resolve_left h0;have h3:i.toNat<f.signs.length:=by omega
  simp[Jn,h0,h1,h2,h3,dS]
def Ey (f:File)(i:Int)(kinds:List Int):Bool:=wi (dS f i).for_ 0 (i-1)&&(zH f (dS f i).for_ (dS f i).part&&hasB kinds (dS f (dS f i).for_).kind)
theorem ann (f:File)(i:Int)(kinds:List Int)(h:0≤i∧i<f.signs.length)(hl:f.signs.length≤100000)(hk:kinds.length≤100):ak T 162 [cB f,.int i,ints kinds] (.bool (Ey f i kinds)):=by
 refine .of_tree rfl (lA 44 (by kernel_rfl)) aqy ?_;have h1:i.toNat<f.signs.length:=by omega
 have hw:IntKind.i64.wrap (i-1)=i-1:=bG (by omega);have hs:dS f i=f.signs[i.toNat]:=by simp[dS,h1]
 unfold Ey;rw[hs];simp[Q7,h,h1,hw];refine⟨_,ec _ _ _,?_⟩;cases hb:wi f.signs[i.toNat].for_ 0 (i-1)
 ·simp
 ·have cv:0≤f.signs[i.toNat].for_∧f.signs[i.toNat].for_<f.signs.length:=by
   simp[wi] at hb;omega
  have h2:f.signs[i.toNat].for_.toNat<f.signs.length:=by omega
  have dE:dS f f.signs[i.toNat].for_=f.signs[f.signs[i.toNat].for_.toNat]:=by simp[dS,h2]
  rw[dE];simp;refine⟨_,Zp f _ _ (.inr cv),?_⟩;cases cS:zH f f.signs[i.toNat].for_ f.signs[i.toNat].part
  ·simp
  simp[cv,h2];exact tP kinds _ (by omega)
def Lf (r:Realm)(b:Bill)(s:Sign)(B:List Int→Bool):Bool:=
 if s.kind=0 then((((decide (s.who=b.drawer)&&decide (s.sum=0))&&decide (cj .or .i64 s.flags 1=1))&&decide (s.part=0))&&decide (s.day=b.day))&&decide (s.city=b.city)
 else if s.kind=1 then decide (s.who=b.drawee)&&(wi s.sum 1 1099511627776&&decide (s.flags=0))
 else if s.kind=2 then((wi s.to (-1) ((r.firms.length:Int)-1)&&decide (s.sum=0))&&wi s.flags 0 7)&&decide (cj .and .i64 s.flags 6≠6)
 else if s.kind=3 then(decide (s.sum=0)&&decide (s.flags=0))&&B [0,1,2,4]
 else if s.kind=4 then((wi s.sum 1 1099511627776&&decide (s.flags=0))&&decide (s.who≠b.drawee))&&B [0,2]
 else false
def F5 (r:Realm)(b:Bill)(i:Nat)(s:Sign)(B:List Int→Bool):Bool:=
 if ¬(i=0↔s.kind=0)∨(¬s.kind=2∧¬s.to=-1) then false
 else if(¬s.kind=3∧¬s.kind=4)∧¬s.for_=-1 then false
 else Lf r b s B
def uE (r:Realm)(f:File)(i:Nat):Bool:=F5 r f.bill i (f.signs.getD i default) (Ey f i)
theorem anp (r:Realm)(hr:Small r)(f:File)(i:Nat)(h:i<f.signs.length)(hl:f.signs.length≤100000):ak T 107 [bA r,cB f,.int i] (.bool (uE r f i)):=by
 refine .of_tree rfl (lA 43 (by kernel_rfl)) aqA ?_;have mC:=hr.firms;have hw:IntKind.i64.wrap ((r.firms.length:Int)-1)=(r.firms.length:Int)-1:=bG (by omega);have hs:f.signs.getD i default=f.signs[i]:=by simp[h]
 have Lz:=fun ks hk=>ann f i ks ⟨by omega,by omega⟩ hl hk;unfold uE;rw[hs];generalize hB:Ey f i=B at Lz ⊢;generalize hX:F5 r f.bill i f.signs[i] B=X;simp[Q9,h];generalize f.signs[i]=s at*;unfold F5 at hX;by_cases h1:¬(i=0↔s.kind=0)∨(¬s.kind=2∧¬s.to=-1)
 ·rw[if_pos h1] at hX ⊢;exact hX.symm
 rw[if_neg h1] at hX ⊢;by_cases h2:(¬s.kind=3∧¬s.kind=4)∧¬s.for_=-1
 ·rw[if_pos h2] at hX ⊢;exact hX.symm
 rw[if_neg h2] at hX ⊢;refine⟨_,ec _ _ _,?_⟩;unfold Lf at hX;by_cases k0:s.kind=0
 ·rw[if_pos k0] at hX ⊢;rw[←hX];by_cases a:(((s.who=f.bill.drawer∧s.sum=0)∧cj BinOp.or IntKind.i64 s.flags 1=1)∧s.part=0)∧s.day=f.bill.day
  ·simp[a]
  ·rw[if_neg a]
   congr 1
   rw[eq_comm,SK];intro e;simp at e;exact a e.1
 rw[if_neg k0] at hX ⊢;by_cases k1:s.kind=1
 ·rw[if_pos k1] at hX ⊢;rw[←hX];by_cases a:s.who=f.bill.drawee<;>cases wi s.sum 1 1099511627776<;>simp[a]
 rw[if_neg k1] at hX ⊢;by_cases k2:s.kind=2
 ·rw[if_pos k2] at hX ⊢;rw[←hX,hw];refine⟨_,ec _ _ _,?_⟩;cases wi s.to (-1) ((r.firms.length:Int)-1)
  ·simp
  by_cases a:s.sum=0
  case neg=>simp[a]
  simp[a];refine⟨_,ec _ _ _,?_⟩;cases wi s.flags 0 7<;>simp
 rw[if_neg k2] at hX ⊢;by_cases k3:s.kind=3
 ·rw[if_pos k3] at hX ⊢;rw[←hX];by_cases a:s.sum=0∧s.flags=0
  case neg=>
   rw[if_neg a,if_neg a]
   congr 1
   rw[eq_comm,SK];intro e;simp at e;exact a e.1
  rw[if_pos a];refine⟨_,Lz [0,1,2,4] (by decide),?_⟩;simp[a]
 rw[if_neg k3] at hX ⊢;by_cases k4:s.kind=4
 ·rw[if_pos k4] at hX ⊢;rw[←hX];cases wi s.sum 1 1099511627776
  ·simp
  by_cases a:s.flags=0∧¬s.who=f.bill.drawee
  case neg=>
   simp[a]
  simp[a];exact Lz [0,2] (by decide)
 rw[if_neg k4] at hX ⊢;exact hX.symm
end Rm
namespace Rm
open Go Go.Proofs Cx
def qK (f:File)(i:Nat):Int:=if i=0 then f.bill.day else(f.signs.getD (i-1) default).day
def D1 (f:File)(i:Nat)(s:Sign):Bool:=(f.signs.take i).any fun x=>(decide (s.kind=1)&&decide (x.kind=1))&&decide (x.part=s.part)
def zF (r:Realm)(f:File)(i:Nat):Int:=
 let s:=f.signs.getD i default
 if wi s.part 0 (f.bill.parts-1)=false then 15
 else if aC s.who r.firms.length=false∨aC s.city r.cities.length=false then 1
 else if wi s.day (qK f i) 100000=false∨(i=0∧¬s.day=qK f i) then 13
 else if uE r f i=false then 14
 else if D1 f i s=true then 5 else 0
theorem Zo (r:Realm)(hr:Small r)(f:File)(hp:1≤f.bill.parts∧f.bill.parts≤4)(i:Nat)(h:i<f.signs.length)(hl:f.signs.length≤100000):ak T 64 [bA r,cB f,.int i] (.int (zF r f i)):=by
 refine .of_tree rfl (lA 41 (by kernel_rfl)) aqC ?_;have mC:=hr.firms;have hci:=hr.cities;have dm:IntKind.i64.wrap ((r.firms.length:Int)-1)=(r.firms.length:Int)-1:=bG (by omega);have eW:IntKind.i64.wrap ((r.cities.length:Int)-1)=(r.cities.length:Int)-1:=bG (by omega);have ML:IntKind.i64.wrap (f.bill.parts-1)=f.bill.parts-1:=bG (by omega);have hs:f.signs.getD i default=f.signs[i]:=by simp[h]
 generalize hX:zF r f i=X;unfold zF at hX;simp only[hs] at hX;simp[Rb,h,dm,eW,ML];refine⟨_,ec _ _ _,?_⟩;cases a1:wi f.signs[i].part 0 (f.bill.parts-1)
 ·simpa [a1] using hX
 simp[a1] at hX ⊢;refine⟨_,ec _ _ _,?_⟩;rw[yO] at hX;cases a2:wi f.signs[i].who 0 ((r.firms.length:Int)-1)
 ·simpa [a2] using hX
 simp[a2] at hX ⊢;refine⟨_,ec _ _ _,?_⟩;rw[yO] at hX;cases a3:wi f.signs[i].city 0 ((r.cities.length:Int)-1)
 ·simpa [a3] using hX
 simp[a3] at hX ⊢;refine⟨by omega,?_⟩;have uW:min i f.signs.length=i:=by omega
 refine aH.forRounds i (fun k=>[.int (qK f k),.bool ((f.signs.take k).any fun x=>(decide (f.signs[i].kind=1)&&decide (x.kind=1))&&decide (x.part=f.signs[i].part)),.int k]) (fun _=>[]) ?_ (fun k hk=>?_) ?_
 ·simp[qK]
 ·have hw:=bI hk (by omega);have bL:k<f.signs.length:=by omega
  have hf:qK f (k+1)=f.signs[k].day:=by simp[qK,bL]
  rw[gx bL,List.any_append];generalize ((f.signs.take k).any fun x=>(decide (f.signs[i].kind=1)&&decide (x.kind=1))&&decide (x.part=f.signs[i].part))=A;simp[aam,IC,hk,bL,h,hw,hf,uW];cases A
  ·by_cases e1:f.signs[i].kind=1<;>by_cases e2:f.signs[k].kind=1<;>simp[e1,e2]
  ·simp
 ·have ht:D1 f i f.signs[i]=true↔∃x,x∈List.take i f.signs∧(f.signs[i].kind=1∧x.kind=1)∧x.part=f.signs[i].part:=by simp[D1]
  simp[aam,IC,uW,h];refine⟨_,ec _ _ _,?_⟩;by_cases a4:wi f.signs[i].day (qK f i) 100000=false∨(i=0∧¬f.signs[i].day=qK f i)
  ·rw[if_pos a4] at hX;rw[if_pos (by simpa using a4)];exact hX
  rw[if_neg a4] at hX;rw[if_neg (by simpa using a4)];refine⟨_,anp r hr f i h hl,?_⟩;cases a5:uE r f i
  ·simpa [a5] using hX
  simp[a5] at hX;simp only[adS,if_true];rw[←hX];by_cases a6:D1 f i f.signs[i]=true
  ·rw[if_pos a6,if_pos (ht.1 a6)]
  ·rw[if_neg a6,if_neg (fun x=>a6 (ht.2 x))]
def Ah (a:Act)(to at_ own:Bool):Bool:=
 if a.kind=0∨a.kind=1∨a.kind=2 then(to&&decide (a.at_=-1))&&decide (a.sum=0)
 else if a.kind=3∨a.kind=4∨a.kind=5 then((to&&decide (a.at_=-1))&&wi a.sum 0 1099511627776)&&wi a.form 0 1
 else if a.kind=6 then(to&&own)&&wi a.sum 1 1099511627776
 else if a.kind=9 then(decide (a.to=-1)&&own)&&decide (a.sum=0)
 else(decide (a.to=-1)&&at_)&&decide (a.sum=0)
def Al (f:File)(a:Act):Bool:=aC a.at_ f.signs.length&&zH f a.at_ a.part
def OA (f:File)(a:Act):Bool:=Al f a&&decide ((dS f a.at_).who=a.who)
def oO (r:Realm)(f:File)(a:Act):Bool:=
 if aC a.who r.firms.length=false∨(¬a.kind=4∧¬a.form=0) then false else Ah a (aC a.to r.firms.length) (Al f a) (OA f a)
theorem anl (r:Realm)(hr:Small r)(f:File)(a:Act)(hl:f.signs.length≤100000):ak T 108 [bA r,cB f,iz a] (.bool (oO r f a)):=by
 refine .of_tree rfl (lA 49 (by kernel_rfl)) aqw ?_;have mC:=hr.firms;have dm:IntKind.i64.wrap ((r.firms.length:Int)-1)=(r.firms.length:Int)-1:=bG (by omega);have eW:IntKind.i64.wrap ((f.signs.length:Int)-1)=(f.signs.length:Int)-1:=bG (by omega);generalize hX:oO r f a=X;unfold oO OA Al at hX;simp[Q5,dm,eW];refine⟨_,ec _ _ _,?_⟩;rw[←yO];have vc:=ec a.to 0 ((r.firms.length:Int)-1);have Cj:=ec a.who 0 ((r.firms.length:Int)-1);rw[←yO] at vc Cj;generalize aC a.to r.firms.length=tt at*;generalize aC a.who r.firms.length=ww at*;have fin:∀at_ own:Bool,(if ww=false∨(¬a.kind=4∧¬a.form=0) then false else Ah a tt at_ own)=X→
  if ww=false∨(¬a.kind=4∧¬a.form=0) then X=false
  else if a.kind=0∨a.kind=1∨a.kind=2 then(if tt=true∧a.at_=-1 then D.bool (decide (a.sum=0)) else D.bool false)=D.bool X
  else if a.kind=3∨a.kind=5∨a.kind=4 then
        if tt=true∧a.at_=-1 then
         ∃d,ak (cH tab ext) 65 [D.int a.sum,D.int 0,D.int 1099511627776] d∧
          if(tt=true∧a.at_=-1)∧d.b=true then
             ∃AQ,ak (cH tab ext) 65 [D.int a.form,D.int 0,D.int 1] AQ∧(if(tt=true∧a.at_=-1)∧d.b=true then AQ else D.bool false)=D.bool X
          else(if(tt=true∧a.at_=-1)∧d.b=true then D.none else D.bool false)=D.bool X
        else D.bool false=D.bool X
  else if a.kind=6 then
        if tt=true∧own=true then ∃AQ,ak (cH tab ext) 65 [D.int a.sum,D.int 1,D.int 1099511627776] AQ∧(if tt=true∧own=true then AQ else D.bool false)=D.bool X
        else(if tt=true∧own=true then D.none else D.bool false)=D.bool X
  else if a.kind=9 then(if a.to=-1∧own=true then D.bool (decide (a.sum=0)) else D.bool false)=D.bool X
  else(if a.to=-1∧at_=true then D.bool (decide (a.sum=0)) else D.bool false)=D.bool X:=by
  intro at_ own hX;by_cases p:ww=false∨(¬a.kind=4∧¬a.form=0)
  ·rw[if_pos p] at hX ⊢;exact hX.symm
  rw[if_neg p] at hX ⊢;unfold Ah at hX;by_cases k0:a.kind=0∨a.kind=1∨a.kind=2
  ·rw[if_pos k0] at hX ⊢;rw[←hX];by_cases e:tt=true∧a.at_=-1
   ·simp[e]
   ·rw[if_neg e];cases tt<;>simp at e ⊢;simp[e]
  rw[if_neg k0] at hX ⊢;by_cases k3:a.kind=3∨a.kind=4∨a.kind=5
  ·rw[if_pos k3] at hX;rw[if_pos (by omega),←hX];by_cases e:tt=true∧a.at_=-1
   ·rw[if_pos e];refine⟨_,ec _ _ _,?_⟩;cases wi a.sum 0 1099511627776
    ·simp
    ·simp[e];exact ec _ _ _
   ·rw[if_neg e];cases tt<;>simp at e ⊢;simp[e]
  rw[if_neg k3] at hX;rw[if_neg (by omega)];by_cases k6:a.kind=6
  ·rw[if_pos k6] at hX ⊢;rw[←hX];by_cases e:tt=true∧own=true
   ·rw[if_pos e];refine⟨_,ec _ _ _,?_⟩;simp[e]
   ·rw[if_neg e,if_neg e];cases tt<;>cases own<;>simp at e ⊢
  rw[if_neg k6] at hX ⊢;by_cases k9:a.kind=9
  ·rw[if_pos k9] at hX ⊢;rw[←hX];cases own<;>by_cases e:a.to=-1<;>simp[e]
  rw[if_neg k9] at hX ⊢;rw[←hX];cases at_<;>by_cases e:a.to=-1<;>simp[e]
 cases h1:aC a.at_ f.signs.length
 ·have hf:=fin false false (by simpa [h1] using hX);simp at hf ⊢;refine⟨_,vc,_,Cj,?_⟩;simpa using hf
 have cP:0≤a.at_∧a.at_<f.signs.length:=by simpa [aC] using h1
 have h2:a.at_.toNat<f.signs.length:=by omega
 have hs:dS f a.at_=f.signs[a.at_.toNat]:=by simp[dS,h2]
 simp[cP];refine⟨_,Zp f _ _ (.inr cP),_,vc,_,Cj,?_⟩;rw[h1,hs] at hX;have hf:=fin _ _ hX;cases h3:zH f a.at_ a.part
 ·rw[h3] at hf;simpa using hf
 ·rw[h3] at hf;simpa [h2] using hf
theorem Ht (a b:Int):(if a<b then b else a)=max a b:=by split<;>omega
theorem NA (a b:Int):(if a<b then D.int b else D.int a)=D.int (max a b):=by
 rw[←Ht];split<;>rfl
def Nj (f:File)(i:Nat)(a:Act):Int:=
 let x:=if a.at_=-1 then f.bill.day else max f.bill.day (dS f a.at_).day
 if i=0 then x else max x (f.acts.getD (i-1) default).day
def qt (r:Realm)(f:File)(i:Nat):Int:=
 let a:=f.acts.getD i default
 if wi a.part 0 (f.bill.parts-1)=false then 15
 else if aC a.city r.cities.length=false∨wi a.kind 0 9=false then 1
 else if oO r f a=false then 14
 else if wi a.day (Nj f i a) 100000=false then 13 else 0
theorem Tk {r:Realm}{f:File}{a:Act}(h:oO r f a=true)(hn:¬a.at_=-1):0≤a.at_∧a.at_<f.signs.length:=by
 unfold oO at h;split at h
 ·cases h
 have key:Al f a=true→0≤a.at_∧a.at_<f.signs.length:=fun e=>by
  unfold Al at e;simp only[aq] at e;simpa [aC] using e.1
 unfold Ah OA at h
 repeat' split at h
 all_goals simp only[aq,decide_eq_true_eq] at h
 ·exact absurd h.1.2 hn
 ·exact absurd h.1.1.2 hn
 ·exact key h.1.2.1
 ·exact key h.1.2.1
 ·exact key h.1.2
theorem anm (r:Realm)(hr:Small r)(f:File)(hp:1≤f.bill.parts∧f.bill.parts≤4)(hl:f.signs.length≤100000)(uR:f.acts.length≤100000):ak T 66 [bA r,cB f] (.int (eU f.acts.length (qt r f))):=by
 refine .of_tree rfl (lA 48 (by kernel_rfl)) aqx ?_;have hci:=hr.cities;have eW:IntKind.i64.wrap ((r.cities.length:Int)-1)=(r.cities.length:Int)-1:=bG (by omega);have ML:IntKind.i64.wrap (f.bill.parts-1)=f.bill.parts-1:=bG (by omega);simp[Q6];refine wh f.acts.length (qt r f) (fun k=>[.int 0,.int k]) (fun _=>[]) ?_ (fun k hk ho=>?_) (fun k hk ho hb=>?_) (fun hj=>?_)
 ·simp
 case' refine_2=>have hb:qt r f k=qt r f k:=rfl
 case' refine_3=>rw[hb]
 case refine_4=>simp[aak,IA,hj]
 all_goals
  have hw:=bI hk (by omega);have hs:f.acts.getD k default=f.acts[k]:=by simp[hk]
  clear hb;generalize hX:qt r f k=X at*;unfold qt at hX;simp only[hs] at hX;simp[aak,IA,hk,eW,ML,hw];refine⟨_,ec _ _ _,?_⟩;cases a1:wi f.acts[k].part 0 (f.bill.parts-1)
  ·simp[a1] at hX ⊢
   first|exact hX|(exfalso;omega)
  simp[a1] at hX ⊢;refine⟨_,ec _ _ _,?_⟩;rw[yO] at hX;cases a2:wi f.acts[k].city 0 ((r.cities.length:Int)-1)
  ·simp[a2] at hX ⊢
   first|exact hX|(exfalso;omega)
  simp[a2] at hX ⊢;refine⟨_,ec _ _ _,?_⟩;cases a3:wi f.acts[k].kind 0 9
  ·simp[a3] at hX ⊢
   first|exact hX|(exfalso;omega)
  simp[a3] at hX ⊢;refine⟨_,anl r hr f f.acts[k] hl,?_⟩;cases a4:oO r f f.acts[k]
  ·simp[a4] at hX ⊢
   first|exact hX|(exfalso;omega)
  simp[a4] at hX ⊢;unfold Nj at hX;by_cases k0:k=0
  ·subst k0;by_cases e1:f.acts[0].at_=-1
   ·simp[e1] at hX;simp[e1];refine⟨_,ec _ _ _,?_⟩;split at hX
    ·rename_i e;simp[e]
     first|exact hX|(exfalso;omega)
    ·rename_i e
     first|(exfalso;omega)|simp[e]
   ·obtain⟨h5,h6⟩:=Tk a4 e1;have h7:f.acts[0].at_.toNat<f.signs.length:=by omega
    have h8:dS f f.acts[0].at_=f.signs[f.acts[0].at_.toNat]:=by simp[dS,h7]
    simp[e1,h8] at hX;simp[e1,h5,h6,h7,NA,Ht];refine⟨_,ec _ _ _,?_⟩;split at hX
    ·rename_i e;simp[e]
     first|exact hX|(exfalso;omega)
    ·rename_i e
     first|(exfalso;omega)|simp[e]
  ·have bQ:IntKind.i64.wrap ((k:Int)-1)=(k:Int)-1:=bG (by omega);have cq:((k:Int)-1).toNat=k-1:=by omega
   have kL:k-1<f.acts.length:=by omega
   have yz:0<k:=by omega
   by_cases e1:f.acts[k].at_=-1
   ·simp[k0,e1,kL] at hX;simp[e1,yz,bQ,cq,kL,NA,Ht];refine⟨by omega,_,ec _ _ _,?_⟩;split at hX
    ·rename_i e;simp[e]
     first|exact hX|(exfalso;omega)
    ·rename_i e
     first|(exfalso;omega)|simp[e]
   ·obtain⟨h5,h6⟩:=Tk a4 e1;have h7:f.acts[k].at_.toNat<f.signs.length:=by omega
    have h8:dS f f.acts[k].at_=f.signs[f.acts[k].at_.toNat]:=by simp[dS,h7]
    simp[k0,e1,kL,h8] at hX;simp[e1,yz,bQ,cq,kL,h5,h6,h7,NA,Ht];refine⟨by omega,_,ec _ _ _,?_⟩;split at hX
    ·rename_i e;simp[e]
     first|exact hX|(exfalso;omega)
    ·rename_i e
     first|(exfalso;omega)|simp[e]
end Rm
namespace Rm
open Go Go.Proofs Cx
def nC (a b:Int):Int:=if a<b then-1 else if b<a then 1 else 0
theorem WD (a:Int):ak T 164 [.int a] (.bool false):=by
 refine .of_tree rfl (lA 52 (by kernel_rfl)) ap8 ?_;simp[QM]
theorem SM (a b:Int):ak T 110 [.int a,.int b] (.int (nC a b)):=by
 refine .of_tree rfl (lA 51 (by kernel_rfl)) ap6 ?_;simp[QK];refine⟨_,WD a,_,WD b,?_⟩;unfold nC;by_cases h1:a<b
 ·simp[h1]
 by_cases h2:b<a<;>simp[h1,h2]
theorem abO (l:List Int)(hl:l.length≤100000):ak T 109 [ints l] (.int (eU l.length fun k=>l.getD k 0)):=by
 refine .of_tree rfl (lA 53 (by kernel_rfl)) ap7 ?_;simp[QL];refine wh l.length (fun k=>l.getD k 0) (fun k=>[.int 0,.int k]) (fun _=>[]) ?_ (fun k hk ho=>?_) (fun k hk ho hb=>?_) (fun hj=>?_)
 ·simp
 ·have hw:=bI hk (by omega);have hx:l[k]=0:=by simpa [hk] using ho
  simp[Pj,C2,hk,hx,hw]
 ·have hx:¬l[k]=0:=by simpa [hk] using ho
  simp only[aI] at hb ⊢;rw[hb];simp[Pj,C2,hk,hx]
 ·simp only[aI] at hj ⊢;rw[hj];simp[Pj,C2]
theorem or2 (a b:Int):(eU 2 fun k=>[a,b].getD k 0)=if a=0 then b else a:=by
 have e:List.range 2=[0,1]:=rfl;unfold eU;rw[e];by_cases ha:a=0<;>by_cases hb:b=0<;>simp[ha,hb]
def j5 (x y:Fact):Prop:=x.at_<y.at_∨(x.at_=y.at_∧x.kind<y.kind)
instance (x y:Fact):Decidable (j5 x y):=by unfold j5;infer_instance
theorem ab4 (x y:Fact):0≤(if nC x.at_ y.at_=0 then nC x.kind y.kind else nC x.at_ y.at_)↔¬j5 x y:=by
 unfold nC j5
 repeat' split
 all_goals omega
def sd (f:File)(i:Nat):Int:=
 let x:=f.facts.getD i default
 if wi x.kind 0 4=false then 1 else if aC x.at_ f.signs.length=false then 1 else if wi x.n 0 1=false then 1
 else if i=0 then 0 else if j5 (f.facts.getD (i-1) default) x then 0 else 5
theorem ano (f:File)(hl:f.signs.length≤100000)(hlf:f.facts.length≤100000):ak T 67 [cB f] (.int (eU f.facts.length (sd f))):=by
 refine .of_tree rfl (lA 50 (by kernel_rfl)) aqz ?_;have eW:IntKind.i64.wrap ((f.signs.length:Int)-1)=(f.signs.length:Int)-1:=bG (by omega);simp[Q8];refine wh f.facts.length (sd f) (fun k=>[.int 0,.int k]) (fun _=>[]) ?_ (fun k hk ho=>?_) (fun k hk ho hb=>?_) (fun hj=>?_)
 ·simp
 case' refine_2=>have hb:sd f k=sd f k:=rfl
 case' refine_3=>rw[hb]
 case refine_4=>simp[aal,IB,hj]
 all_goals
  have hw:=bI hk (by omega);have hs:f.facts.getD k default=f.facts[k]:=by simp[hk]
  clear hb;generalize hX:sd f k=X at*;unfold sd at hX;simp only[hs] at hX;simp[aal,IB,hk,eW,hw];refine⟨_,ec _ _ _,?_⟩;cases a1:wi f.facts[k].kind 0 4
  ·simp[a1] at hX ⊢
   first|exact hX|(exfalso;omega)
  simp[a1] at hX ⊢;refine⟨_,ec _ _ _,?_⟩;rw[yO] at hX;cases a2:wi f.facts[k].at_ 0 ((f.signs.length:Int)-1)
  ·simp[a2] at hX ⊢
   first|exact hX|(exfalso;omega)
  simp[a2] at hX ⊢;refine⟨_,ec _ _ _,?_⟩;cases a3:wi f.facts[k].n 0 1
  ·simp[a3] at hX ⊢
   first|exact hX|(exfalso;omega)
  simp[a3] at hX ⊢;by_cases k0:k=0
  ·subst k0;simp at hX ⊢
   first|(exfalso;omega)|done
  ·have bQ:IntKind.i64.wrap ((k:Int)-1)=(k:Int)-1:=bG (by omega);have cq:((k:Int)-1).toNat=k-1:=by omega
   have kL:k-1<f.facts.length:=by omega
   simp[k0,kL] at hX;simp[k0,bQ,cq,kL];refine⟨by omega,_,SM _ _,_,SM _ _,?_⟩;have ho:=abO [nC f.facts[k-1].at_ f.facts[k].at_,nC f.facts[k-1].kind f.facts[k].kind] (by simp);simp only[oJ,wN] at ho;rw[or2] at ho;refine⟨_,ho,?_⟩;have ha:=ab4 f.facts[k-1] f.facts[k];generalize (if nC f.facts[k-1].at_ f.facts[k].at_=0 then nC f.facts[k-1].kind f.facts[k].kind else nC f.facts[k-1].at_ f.facts[k].at_)=n at*;clear ho;by_cases e:j5 f.facts[k-1] f.facts[k]
   ·have hn:¬0≤n:=fun h=>ha.1 h e;simp[e] at hX;simp[hn]
    first|done|(exfalso;omega)
   ·have hn:0≤n:=ha.2 e;simp[e] at hX;simp[hn]
    first|exact hX|(exfalso;omega)
def tY (f:File)(i:Nat):Int:=
 let x:=f.alters.getD i default
 if wi x.at_ ((if i=0 then 0 else(f.alters.getD (i-1) default).at_)+1) f.signs.length=false then 1 else if wi x.sum 1 1099511627776=false then 3 else 0
structure PaperOK (r:Realm) (f:File):Prop where
 full:(f.signs.length≤40∧f.alters.length≤4)∧f.acts.length≤100∧f.facts.length≤200
 bill:BillOK r f.bill
 ne:f.signs≠[]
 signs:eU f.signs.length (zF r f)=0
 alters:eU f.alters.length (tY f)=0
 acts:eU f.acts.length (qt r f)=0
 facts:eU f.facts.length (sd f)=0
theorem anj (r:Realm)(hs:Small r)(f:File)(Lm:f.OK):∃d,ak T 16 [bA r,cB f] d∧ni (PaperOK r f) d:=by
 refine ak.ex_of_tree rfl acw aqu ?_;simp[Q3];by_cases hf:(f.signs.length≤40∧f.alters.length≤4)∧f.acts.length≤100∧f.facts.length≤200
 case neg=>
  rw[if_pos (by omega)];exact .no (fun h=>hf h.full) (by decide)
 rw[if_neg (by omega)];obtain⟨d,hb,e,rfl,he⟩:=asa r hs f.bill;refine⟨_,hb,?_⟩;by_cases e0:e=0
 case neg=>
  simp[e0];exact .no (fun h=>e0 (he.2 h.bill)) e0
 have Gs:=he.1 e0;simp[e0];by_cases az:f.signs=[]
 ·simp[az];exact .no (fun h=>h.ne az) (by decide)
 simp[az];refine wh f.signs.length (zF r f) (fun k=>[.int 0,.int k]) (fun _=>[]) ?_ (fun k hk ho=>?_) (fun k hk ho hb=>?_) (fun hj=>?_)
 ·simp
 ·have hw:=bI hk (by omega);simp[Pn,C6,hk,hw];refine⟨_,Zo r hs f Gs.parts k hk (by omega),?_⟩;simp[ho]
 ·simp[Pn,C6,hk];refine⟨_,Zo r hs f Gs.parts k hk (by omega),?_⟩;simp[ho];exact .no (fun h=>ho (by rw[←hb];exact h.signs)) ho
 simp[Pn,C6];have jL:∀k,k<f.alters.length→(∀j,j<k→tY f j=0)→IntKind.i64.wrap ((if k=0 then 0 else(f.alters.getD (k-1) default).at_)+1)=(if k=0 then 0 else(f.alters.getD (k-1) default).at_)+1:=by
  intro k hk hj;refine bG ?_;by_cases k0:k=0
  ·rw[if_pos k0];omega
  ·rw[if_neg k0];have h1:=hj (k-1) (by omega);have bQ:k-1<f.alters.length:=by omega
   have h2:=(Lm.2.2.1.2 _ (cM bQ)).1;have h3:f.alters.getD (k-1) default=f.alters[k-1]:=by simp[bQ]
   unfold tY at h1;rw[h3] at h1 ⊢;simp only at h1;generalize (if k-1=0 then(0:Int) else(f.alters.getD (k-1-1) default).at_)=L0 at h1;split at h1
   ·cases h1
   ·rename_i hh;simp[wi] at hh;unfold aZ at h2;omega
 refine aH.scan f.alters.length (fun k=>tY f k=0) (fun k=>[.int 0,.int (if k=0 then 0 else(f.alters.getD (k-1) default).at_),.int k]) (fun _=>[]) ?_ (fun k hk uQ ho=>?_) (fun k hk uQ ho=>?_) (fun BM=>?_)
 ·simp
 ·have hw:=bI hk (by omega);have hl:=jL k hk uQ;generalize hL:(if k=0 then 0 else(f.alters.getD (k-1) default).at_)=L at*;have hs:f.alters.getD k default=f.alters[k]:=by simp[hk]
  unfold tY at ho;simp only[hs,hL] at ho;simp[Po,C7,hk,hl];refine⟨_,ec _ _ _,?_⟩;cases a1:wi f.alters[k].at_ (L+1) f.signs.length
  ·simp[a1] at ho
  simp[a1] at ho ⊢;refine⟨_,ec _ _ _,?_⟩;simp[ho,hw]
 ·have hl:=jL k hk uQ;have BG:=Lb hk uQ ho;generalize hL:(if k=0 then 0 else(f.alters.getD (k-1) default).at_)=L at*;have hs:f.alters.getD k default=f.alters[k]:=by simp[hk]
  have bad:∀e:Int,e≠0→ni (PaperOK r f) (.int e):=fun e h=>.no (fun h=>ho (by rw[←BG];exact h.alters)) h;unfold tY at ho;simp only[hs,hL] at ho;simp[Po,C7,hk,hl];refine⟨_,ec _ _ _,?_⟩;cases a1:wi f.alters[k].at_ (L+1) f.signs.length
  ·simp;exact bad 1 (by decide)
  simp[a1] at ho ⊢;refine⟨_,ec _ _ _,?_⟩;simp[ho];exact bad 3 (by decide)
 have BM:=Lc BM;simp[Po,C7];refine⟨_,anm r hs f Gs.parts (by omega) (by omega),?_⟩;by_cases e3:eU f.acts.length (qt r f)=0
 case neg=>
  simp[e3];exact .no (fun h=>e3 h.acts) e3
 simp[e3];refine⟨_,ano f (by omega) (by omega),?_⟩;exact⟨_,rfl,fun h=>⟨hf,Gs,az,hj,BM,e3,h⟩,fun h=>h.facts⟩
end Rm
namespace Rm
open Go Go.Proofs Cx
structure SignOK (r:Realm) (f:File) (i:Nat) (s:Sign):Prop where
 part:0≤s.part∧s.part≤f.bill.parts-1
 who:0≤s.who∧s.who<r.firms.length
 city:0≤s.city∧s.city<r.cities.length
 day:qK f i≤s.day∧s.day≤100000
 fits:uE r f i=true
 once:D1 f i s=false
theorem PaperOK.sign {r:Realm}{f:File}(h:PaperOK r f)(i:Nat)(hi:i<f.signs.length):SignOK r f i f.signs[i]:=by
 have h1:=Bc h.signs i hi;have hs:f.signs.getD i default=f.signs[i]:=by simp[hi]
 unfold zF at h1;simp only[hs] at h1;split at h1
 ·cases h1
 rename_i a1;split at h1
 ·cases h1
 rename_i a2;split at h1
 ·cases h1
 rename_i a3;split at h1
 ·cases h1
 rename_i a4;split at h1
 ·cases h1
 rename_i a5;simp[wi,aC] at a1 a2 a3;exact⟨⟨by omega,by omega⟩,⟨by omega,by omega⟩,⟨by omega,by omega⟩,⟨by omega,by omega⟩,by simpa using a4,by simpa using a5⟩
structure zR (r:Realm) (f:File) (i:Nat) (a:Act):Prop where
 part:0≤a.part∧a.part≤f.bill.parts-1
 city:0≤a.city∧a.city<r.cities.length
 kind:0≤a.kind∧a.kind≤9
 fits:oO r f a=true
 day:Nj f i a≤a.day∧a.day≤100000
theorem PaperOK.act {r:Realm}{f:File}(h:PaperOK r f)(i:Nat)(hi:i<f.acts.length):zR r f i f.acts[i]:=by
 have h1:=Bc h.acts i hi;have hs:f.acts.getD i default=f.acts[i]:=by simp[hi]
 unfold qt at h1;simp only[hs] at h1;split at h1
 ·cases h1
 rename_i a1;split at h1
 ·cases h1
 rename_i a2;split at h1
 ·cases h1
 rename_i a3;split at h1
 ·cases h1
 rename_i a4;simp[wi,aC] at a1 a2 a4;exact⟨⟨by omega,by omega⟩,⟨by omega,by omega⟩,⟨by omega,by omega⟩,by simpa using a3,by omega⟩
theorem apc {r:Realm}{f:File}{i:Nat}(hi:i<f.signs.length)(h:uE r f i=true)(hk:f.signs[i].kind=1∨f.signs[i].kind=4):1≤f.signs[i].sum∧f.signs[i].sum≤1099511627776:=by
 have hs:f.signs.getD i default=f.signs[i]:=by simp[hi]
 unfold uE at h;rw[hs] at h;unfold F5 at h;split at h
 ·cases h
 split at h
 ·cases h
 unfold Lf at h;rcases hk with hk|hk
 ·simp[hk,wi] at h;omega
 ·simp[hk,wi] at h;omega
theorem PaperOK.sums {r:Realm}{f:File}(h:PaperOK r f):SumsOK f:=by
 have hr:=h.bill.range;unfold zp at hr;refine⟨by omega,by omega,fun a ha=>?_,fun s hs hk=>?_⟩
 ·obtain⟨i,hi,rfl⟩:=fj ha;have h1:=Bc h.alters i hi;have hs:f.alters.getD i default=f.alters[i]:=by simp[hi]
  unfold tY at h1;simp only[hs] at h1;generalize (if i=0 then(0:Int) else(f.alters.getD (i-1) default).at_)=L at h1;split at h1
  ·cases h1
  split at h1
  ·cases h1
  rename_i a1;simp[wi] at a1;omega
 ·obtain⟨i,hi,rfl⟩:=fj hs;exact apc hi (h.sign i hi).fits hk
end Rm
namespace Rm
open Go Go.Proofs Cx
structure ORun (r:Realm) (f:File):Prop where
 right:Right r
 rightD:RightD r
 few:FewS f
 realm:RealmOK r
 sums:SumsOK f
 who:∀s,s∈f.signs→0≤s.who∧s.who<r.firms.length
 acts:∀a,a∈f.acts→KN a=true→0≤a.sum∧a.sum≤1099511627776
end Rm
namespace Rm
open Go Go.Proofs Cx
end Rm
namespace Rm
open Go Go.Proofs Cx
end Rm
namespace Rm
open Go Go.Proofs Cx
end Rm
namespace Rm
open Go Go.Proofs Cx
theorem afj {r:Realm}{f:File}(h:nJ r f=true)(hc:ix r=0):yb r f=true:=by simp[yb,h,hc]
def abE (d:D):Prop:=∃b:Bool,d=.bool b
theorem abY {r:Realm}{f:File}{a:Act}(h:oO r f a=true)(hc:KN a=true):0≤a.sum∧a.sum≤1099511627776:=by
 unfold oO at h;split at h
 ·cases h
 have hk:a.kind=4∨a.kind=5:=by simpa [KN] using hc
 unfold Ah at h;rw[if_neg (by omega),if_pos (by omega)] at h;simp[wi] at h;omega
theorem ana {r:Realm}{f:File}(G:Good r f)(hc:ix r=0)(hP:PaperOK r f):ORun r f:=by
 refine⟨G.right,G.rightD,G.few,aop hc,hP.sums,fun s hs=>?_,fun a ha hk=>?_⟩
 ·obtain⟨i,hi,rfl⟩:=fj hs;exact(hP.sign i hi).who
 ·obtain⟨i,hi,rfl⟩:=fj ha;exact abY (hP.act i hi).fits hk
def uC (f:File)(l:List Fact):File:={f with facts:=l}
theorem ab5 {x y z:Fact}(h1:j5 x y)(h2:j5 y z):j5 x z:=by unfold j5 at*;omega
theorem afi {r:Realm}{f:File}(h:PaperOK r f):f.facts.Pairwise j5:=by
 rw[JF];intro i j hi hj db
 have next:∀k (hk:k+1<f.facts.length),j5 (f.facts[k]'(by omega)) f.facts[k+1]:=by
  intro k hk;have h1:=Bc h.facts (k+1) hk;have hs:f.facts.getD (k+1) default=f.facts[k+1]:=by simp[hk]
  have dE:f.facts.getD (k+1-1) default=f.facts[k]:=by simp[show k<f.facts.length by omega]
  unfold sd at h1;simp only[hs,dE] at h1;split at h1
  ·cases h1
  split at h1
  ·cases h1
  split at h1
  ·cases h1
  rw[if_neg (by omega)] at h1;split at h1
  ·rename_i h2;exact h2
  ·cases h1
 obtain⟨d,rfl⟩:∃d,j=i+1+d:=⟨j-i-1,by omega⟩
 clear db
 induction d with
 |zero=>exact next i hj
 |succ d ih=>exact ab5 (ih (by omega) next) (next (i+1+d) hj)
theorem afp {l m:List Fact}(hs:l.Sublist m)(hp:m.Pairwise j5)(k s:Int)(x:Fact)(h:l.find? (kH k s)=some x):m.find? (kH k s)=some x:=by
 have hx:=tT h;have hb:=z7 h;have hm:=hs.subset hx;cases e:m.find? (kH k s) with
 |none=>exact absurd hb (by have:=tR.1 e x hm;simpa using this)
 |some y=>
  have hy:=tT e;have hyb:=z7 e
  congr 1
  simp[kH] at hb hyb;refine JA fun az=>?_;obtain⟨i,hi,rfl⟩:=fj hy;obtain⟨j,hj,rfl⟩:=fj hm;have db:i≠j:=fun q=>az (by subst q;rfl);have V5:=JF.1 hp;rcases Nat.lt_or_gt_of_ne db with q|q
  ·have:=V5 i j hi hj q;unfold j5 at this;omega
  ·have:=V5 j i hj hi q;unfold j5 at this;omega
theorem aj3 {r:Realm}{f:File}(h:PaperOK r f){l:List Fact}(hs:l.Sublist f.facts):MoreF (uC f l) f:=by
 refine⟨⟨rfl,rfl,rfl,rfl⟩,fun k s hk=>?_⟩;unfold cU at hk ⊢;have e:(uC f l).facts=l:=rfl;rw[e] at hk ⊢;cases e2:l.find? (kH k s) with
 |none=>rw[e2] at hk;cases hk
 |some x=>rw[afp hs (afi h) k s x e2]
def yP (drop:Nat)(i:Nat):Bool:=decide (cj .and .u64 (cj .shr .u64 drop ((i:Int).tmod 64)) 1=0)
def pG (drop:Nat)(l:List Fact)(k:Nat):List Fact:=((List.range k).filter (yP drop)).map fun i=>l.getD i default
theorem WK (drop:Nat)(l:List Fact)(k:Nat):pG drop l (k+1)=pG drop l k++if yP drop k then[l.getD k default] else[]:=by
 unfold pG;rw[JI,Ed,lx]
 congr 1
 cases h:yP drop k<;>simp[List.filter,h]
theorem M1 (drop:Nat)(l:List Fact):∀k,k≤l.length→(pG drop l k).Sublist (l.take k)
 |0,_=>by simp[pG]
 |k+1,hk=>by
  have af:k<l.length:=hk;rw[WK,gx af];refine(M1 drop l k (by omega)).append ?_;split
  ·simp[af]
  ·exact List.nil_sublist _
end Rm
namespace Rm
open Go Go.Proofs Cx
abbrev dU:=Int×List Int
def my (h:dU):D:=.agg [.int h.1,ints h.2]
def gQ (l:List dU):D:=.list (l.map my)
theorem ka (l:List dU):(gQ l).l=l.map my:=rfl
def Bi (g:List Int)(k:Nat):Prop:=0≤g.getD k 0∧g.getD k 0<20∧(0<k→g.getD (k-1) 0<g.getD k 0)
def lH (g:List Int):Prop:=∀k,k<g.length→Bi g k
def sk (h:dU):Prop:=0≤h.1∧h.1≤1099511627776∧lH h.2
def Rt (l:List dU):Prop:=l.length≤100∧∀k,k<l.length→sk (l.getD k default)
theorem aaG (ρ:Env)(g:List Int)(x:D)(hg:g.length≤maxLen)(Gf:ρ.r 25=ints g)(Bn:ρ.r 26=.int g.length)(h27:ρ.r 27=.int 0)(h4:ρ.o 4=.agg [x,ints g]){Q:Out→Prop}
 (au:lH g→Q (.next (ρ.put [2,27,28] [ρ.r 2,.int g.length,.bool false] [] []))) (Gr:¬lH g→Q (.ret (.bool false))):aH T (Xd ua) ρ Q:=by
 rw[CA] at hg;refine aH.scan g.length (Bi g) (fun k=>[ρ.r 2,.int k]) (fun _=>[]) ?_ (fun k hk hj ho=>?_) (fun k hk hj ho=>?_) (fun hj=>?_)
 ·simp[h27]
 ·simp[Bi,hk] at ho;have dm:IntKind.i64.wrap ((k:Int)+1)=(k:Int)+1:=bG (by omega);by_cases mF:k=0
  ·subst mF;simp at ho;simp[C4,v7,Gf,Bn,h4,hk,dm];omega
  ·have bQ:k-1<g.length:=by omega
   have hw:IntKind.i64.wrap ((k:Int)-1)=((k-1:Nat):Int):=by rw[bG (by omega)];omega
   simp[bQ] at ho;simp[C4,v7,Gf,Bn,h4,hk,dm,hw,bQ,mF];omega
 ·have hb:¬lH g:=fun h=>ho (h k hk);have dm:IntKind.i64.wrap ((k:Int)+1)=(k:Int)+1:=bG (by omega);simp[Bi,hk] at ho;by_cases mF:k=0
  ·subst mF;simp at ho;simp[C4,v7,Gf,Bn,h4,hk,dm,Gr hb];omega
  ·have bQ:k-1<g.length:=by omega
   have hw:IntKind.i64.wrap ((k:Int)-1)=((k-1:Nat):Int):=by rw[bG (by omega)];omega
   simp[bQ] at ho;simp[C4,v7,Gf,Bn,h4,hk,dm,hw,bQ,mF,Gr hb];omega
 ·have:=au hj;simp[C4,v7,Bn];exact this
theorem aoG (ρ:Env)(l:List dU)(hl:l.length≤maxLen)(hg:∀h,h∈l→h.2.length≤maxLen)(gj:ρ.r 10=gQ l)(lI:ρ.r 11=.int l.length)(uG:ρ.r 12=.int 0)(h2:ρ.r 2=.bool false){Q:Out→Prop}
 (au:(∀k,k<l.length→sk (l.getD k default))→∀ρ',Q (.next ρ')) (Gr:¬(∀k,k<l.length→sk (l.getD k default))→Q (.ret (.bool false))):aH T (Xe ua) ρ Q:=by
 rw[CA] at hl;refine aH.scan l.length (fun k=>sk (l.getD k default)) (fun k=>[.bool false,.int k]) (fun _=>[]) ?_ (fun k hk hj ho=>?_) (fun k hk hj ho=>?_) (fun hj=>?_)
 ·simp[uG,h2]
 ·have hm:l[k].2.length≤maxLen:=hg _ (cM _);have dm:IntKind.i64.wrap ((k:Int)+1)=(k:Int)+1:=bG (by omega);simp[hk] at ho;generalize hh:l[k]=h at ho hm;have e:my l[k]=.agg [.int h.1,ints h.2]:=by rw[hh];rfl
  obtain⟨o1,o2,o3⟩:=ho;simp[Pm,C5,gj,lI,hk,e,ka,cr];rw[if_neg (by omega)];refine aaG _ h.2 (.int h.1) hm (by simp[e,hk,gj,ka,cr]) (by simp[e,hk,gj,ka,cr]) (by simp) (by simp[e,hk,gj,ka,cr]) (fun _=>?_) (fun hb=>absurd o3 hb);simp[dm]
 ·have hb:=Gr fun hh=>ho (hh k hk);have hm:l[k].2.length≤maxLen:=hg _ (cM _);simp[hk] at ho;generalize hh:l[k]=h at ho hm;have e:my l[k]=.agg [.int h.1,ints h.2]:=by rw[hh];rfl
  simp[Pm,C5,gj,lI,hk,e,ka,cr,hb];intro o1 o2;have o3:¬lH h.2:=fun hh=>ho ⟨o1,by omega,hh⟩;exact aaG _ h.2 (.int h.1) hm (by simp[e,hk,gj,ka,cr]) (by simp[e,hk,gj,ka,cr]) (by simp) (by simp[e,hk,gj,ka,cr]) (fun hh=>absurd hh o3) (fun _=>by simpa using hb)
 ·simp[Pm,C5,lI];exact au hj _
instance (l:List dU):Decidable (Rt l):=Classical.propDecidable _
theorem afb (l:List dU)(hl:l.length≤maxLen)(hg:∀h,h∈l→h.2.length≤maxLen):ak T 20 [gQ l] (.bool (decide (Rt l))):=by
 refine .of_tree rfl Tx aqh ?_;simp[QS,ka];by_cases h1:l.length≤100
 ·rw[if_neg (by omega)];refine aoG _ l hl hg (by simp) (by simp[ka]) (by simp) (by simp) (fun h ρ'=>?_) (fun h=>?_)
  ·have:Rt l:=⟨h1,h⟩
   simp[this]
  ·have:¬Rt l:=fun hh=>h hh.2;simp[this]
 ·rw[if_pos (by omega)];simp[Rt,h1]
end Rm
namespace Rm
open Go Go.Proofs Cx
def sU (m:BitVec 32)(g:Int):BitVec 32:=if 0≤g∧g<20 then m|||(1#32<<<g.toNat) else m
def fW (l:List Int):BitVec 32:=l.foldl sU 0
def u32 (m:BitVec 32):D:=.v (.int .u32 m.toNat)
@[simp] theorem ay8 (m:BitVec 32):(u32 m).i=m.toNat:=rfl
theorem wrap_u32 (m:BitVec 32):IntKind.u32.wrap (m.toNat:Int)=m.toNat:=by
 have:=m.isLt;simp only[IntKind.wrap,IntKind.signed,IntKind.bits];simp;omega
@[simp] theorem ofInt_u32 (m:BitVec 32):BitVec.ofInt 32 (m.toNat:Int)=m:=by
  apply BitVec.eq_of_toNat_eq;simp
theorem acg (a b:BitVec 32):cj .or .u32 a.toNat b.toNat=(a|||b).toNat:=by
 show IntKind.u32.wrap ((BitVec.ofInt 32 _|||BitVec.ofInt 32 _).toNat:Int)=_;rw[ofInt_u32,ofInt_u32,wrap_u32]
theorem ace (a b:BitVec 32):cj .andNot .u32 a.toNat b.toNat=(a&&& ~~~b).toNat:=by
 show IntKind.u32.wrap ((BitVec.ofInt 32 _&&& ~~~BitVec.ofInt 32 _).toNat:Int)=_;rw[ofInt_u32,ofInt_u32,wrap_u32]
theorem ach {g:Int}(h0:0≤g)(h1:g<20):cj .shl .u32 1 g=(1#32<<<g.toNat).toNat:=by
 obtain⟨n,rfl⟩:=mh h0;have hn:n<20:=by omega
 show IntKind.u32.wrap (1*2^(min (n:Int).toNat 32))=_;have hp:2^n<2^32:=Nat.pow_lt_pow_right (by omega) (by omega);have e:min (n:Int).toNat 32=n:=by simp;omega
 rw[e];have e2:(1#32<<<(n:Int).toNat).toNat=2^n:=by
  simp[BitVec.toNat_shiftLeft,Nat.shiftLeft_eq];simpa using hp
 rw[e2];have:=wrap_u32 (BitVec.ofNat 32 (2^n));simp only[BitVec.toNat_ofNat,Ta hp] at this;rw[←this];simp
theorem acf (m:BitVec 32){g:Int}(h0:0≤g)(h1:g<20):cj .or .u32 m.toNat (cj .shl .u32 1 g)=(m|||1#32<<<g.toNat).toNat:=by
 rw[ach h0 h1,acg]
theorem UC (g:List Int)(hg:g.length≤maxLen):ak T 72 [ints g] (u32 (fW g)):=by
 refine .of_tree rfl TA aqk ?_;simp[QU];rw[CA] at hg;refine aH.forRounds g.length (fun k=>[u32 (fW (g.take k)),.int k]) (fun _=>[]) ?_ (fun k hk=>?_) ?_
 ·simp;rfl
 ·have dm:IntKind.i64.wrap ((k:Int)+1)=(k:Int)+1:=bG (by omega);have hs:fW (g.take (k+1))=sU (fW (g.take k)) g[k]:=by
   unfold fW;rw[gx hk,wM];rfl
  rw[hs];generalize fW (g.take k)=m;simp[aae,Iu,hk,dm];by_cases h0:0≤g[k]
  ·by_cases h1:g[k]<20
   ·simp[h0,h1,sU,acf m h0 h1];rfl
   ·simp[h0,h1,sU]
  ·simp[h0,sU]
 ·simp[aae,Iu]
theorem aj7 {k n:Nat}(h1:k<n)(h2:n≤100):((min k n:Nat):Int)+1≤4294967296:=by omega
theorem afd (l:List dU)(hl:l.length≤100)(hg:∀h,h∈l→h.2.length≤maxLen):ak T 71 [gQ l] (.list (l.map fun h=>u32 (fW h.2))):=by
 refine .of_tree rfl TB aql ?_;simp[QV];refine aH.forRounds l.length (fun k=>[.none,.int k]) (fun k=>[.list ((l.take k).map fun h=>u32 (fW h.2))]) ?_ (fun k hk=>?_) ?_
 ·simp
 ·have dm:IntKind.i64.wrap ((k:Int)+1)=(k:Int)+1:=bG (by omega);have hm:l[k].2.length≤maxLen:=hg _ (cM _);generalize hh:l[k]=h at hm;have e:my l[k]=.agg [.int h.1,ints h.2]:=by rw[hh];rfl
  simp[aaf,Iv,hk,dm,ka,e,cr];refine⟨_,UC _ hm,?_⟩;refine⟨aj7 hk hl,?_⟩;rw[gx (by simpa using hk)];simp[hh]
 ·simp[aaf,Iv,ka]
def jR (l:List dU)(f:BitVec 32):Int:=(l.map fun h=>if fW h.2&&& ~~~f=0#32 then h.1 else 0).sum
theorem Xa {f:BitVec 32}:∀{l:List dU},(∀h,h∈l→0≤h.1∧h.1≤1099511627776)→0≤jR l f∧jR l f≤1099511627776*l.length
 |[],_=>by simp[jR]
 |h::l,hh=>by
  have ih:=Xa (f:=f) (l:=l) fun x hx=>hh x (ef _ hx);have h1:=hh h (eC ..);unfold jR at ih ⊢;simp only[eB,List.sum_cons,oJ];split<;>omega
theorem akb (l:List dU)(h:dU)(f:BitVec 32):jR (l++[h]) f=jR l f+if fW h.2&&& ~~~f=0#32 then h.1 else 0:=by
 simp[jR]
theorem afc (l:List dU)(f:BitVec 32)(hl:l.length≤100)(hb:∀h,h∈l→0≤h.1∧h.1≤1099511627776):ak T 70 [gQ l,.list (l.map fun h=>u32 (fW h.2)),u32 f] (.int (jR l f)):=by
 refine .of_tree rfl Tz aqj ?_;simp[QT];refine aH.forRounds l.length (fun k=>[.int (jR (l.take k) f),.int k]) (fun _=>[]) ?_ (fun k hk=>?_) ?_
 ·simp[jR]
 ·have dm:IntKind.i64.wrap ((k:Int)+1)=(k:Int)+1:=bG (by omega);have hs:jR (l.take (k+1)) f=jR (l.take k) f+if fW l[k].2&&& ~~~f=0#32 then l[k].1 else 0:=by
   rw[gx hk,akb]
  have bd:=Xa (f:=f) (l:=l.take k) fun h hm=>hb h (List.mem_of_mem_take hm);have bl:(l.take k).length≤100:=by simp;omega
  have b1:=hb l[k] (cM _);rw[hs];generalize jR (l.take k) f=t at bd;generalize hh:l[k]=h at b1;have e:my l[k]=.agg [.int h.1,ints h.2]:=by rw[hh];rfl
  have e':my h=.agg [.int h.1,ints h.2]:=rfl;simp[aad,It,hk,dm,ka,e',cr,hh];have hz:(((fW h.2&&& ~~~f).toNat:Int)=0)↔fW h.2&&& ~~~f=0#32:=by
   rw[BitVec.toNat_eq];simp
  rw[ace];by_cases hc:fW h.2&&& ~~~f=0#32
  ·rw[if_pos (hz.2 hc),if_pos hc,bG (by omega)]
  ·rw[if_neg (fun h=>hc (hz.1 h)),if_neg hc];simp
 ·simp[aad,It,ka]
def vu (l:List dU)(failed:List Int):Int:=if Rt l then jR l (fW failed) else 0
theorem lH.mono {g:List Int}(h:lH g):∀(k:Nat),k<g.length→(k:Int)≤g.getD k 0
 |0,hk=>(h 0 hk).1
 |k+1,hk=>by
  have h1:=(h (k+1) hk).2.2 (by omega);have h2:=lH.mono h k (by omega);simp only[Nat.add_sub_cancel] at h1;omega
theorem lH.len {g:List Int}(h:lH g):g.length≤20:=by
 refine S8 fun af=>?_;have h1:=h.mono 20 af;have h2:=(h 20 af).2.1;omega
theorem lH.range {g:List Int}(h:lH g){x:Int}(hx:x∈g):0≤x∧x<20:=by
 obtain⟨k,hk⟩:=rM hx;have af:=(ed.1 hk).1;have:=h k af;unfold Bi at this;rw[aI,hk] at this;exact⟨this.1,this.2.1⟩
theorem Rt.held {l:List dU}(h:Rt l){x:dU}(hx:x∈l):sk x:=by
 obtain⟨k,hk⟩:=rM hx;have af:=(ed.1 hk).1;have:=h.2 k af
 rwa [aI,hk] at this
theorem Rt.len {l:List dU}(h:Rt l){x:dU}(hx:x∈l):x.2.length≤20∧0≤x.1∧x.1≤1099511627776:=
 ⟨(h.held hx).2.2.len,(h.held hx).1,(h.held hx).2.1⟩
theorem UA (l:List dU)(failed:List Int)(hl:l.length≤maxLen)(hg:∀h,h∈l→h.2.length≤maxLen)(hf:failed.length≤maxLen):ak T 18 [gQ l,ints failed] (.int (vu l failed)):=by
 refine .of_tree rfl Tw aqe ?_;simp[QQ];refine⟨_,afb l hl hg,?_⟩;by_cases hr:Rt l
 ·simp[hr];refine⟨_,afd l hr.1 hg,_,UC failed hf,?_⟩;have:=afc l (fW failed) hr.1 (fun h hh=>(hr.len hh).2);simpa [vu,hr] using this
 ·simp[hr,vu]
theorem ame (m:BitVec 32)(g:Int)(j:Nat):(sU m g).getLsbD j=(m.getLsbD j||decide (g=j∧j<20)):=by
 unfold sU;split
 ·rename_i h;obtain⟨n,rfl⟩:=mh h.1;have hn:n<20:=by omega
  simp only[BitVec.getLsbD_or]
  congr 1
  rw[BitVec.getLsbD_shiftLeft,wF];simp;omega
 ·rename_i h;have:¬(g=j∧j<20):=by omega
  simp[this]
theorem amd (g:List Int):∀(m:BitVec 32) (j:Nat),(g.foldl sU m).getLsbD j=(m.getLsbD j||decide ((j:Int)∈g∧j<20)):=by
 induction g with
 |nil=>intro m j;simp
 |cons x g ih=>
  intro m j;rw[Ee,ih,ame,Bool.or_assoc]
  congr 1
  rw[wF];simp only[jy,decide_eq_true_eq,cG];constructor
  ·rintro(⟨h1,h2⟩|⟨h1,h2⟩)
   ·exact⟨.inl h1.symm,h2⟩
   ·exact⟨.inr h1,h2⟩
  ·rintro⟨h1|h1,h2⟩
   ·exact .inl ⟨h1.symm,h2⟩
   ·exact .inr ⟨h1,h2⟩
theorem Nv (g:List Int)(j:Nat):(fW g).getLsbD j=decide ((j:Int)∈g∧j<20):=by
 unfold fW;rw[amd];simp
theorem apo (m f:BitVec 32):m&&& ~~~f=0#32↔∀j,m.getLsbD j=true→f.getLsbD j=true:=by
 constructor
 ·intro h j hj;have h1:=congrArg (fun x=>x.getLsbD j) h;simp only[BitVec.getLsbD_and,BitVec.getLsbD_not,hj,wH,BitVec.getLsbD_zero] at h1;have af:j<32:=BitVec.lt_of_getLsbD hj;simpa [af] using h1
 ·intro h;apply BitVec.eq_of_getLsbD_eq;intro j hj;simp only[BitVec.getLsbD_and,BitVec.getLsbD_not,BitVec.getLsbD_zero,hj,decide_true,wH];cases hm:m.getLsbD j
  ·rfl
  ·rw[h j hm];rfl
def yS (h:dU)(failed:List Int):Prop:=∀x,x∈h.2→x∈failed
theorem Xc {h:dU}(hh:sk h)(failed:List Int):fW h.2&&& ~~~(fW failed)=0#32↔yS h failed:=by
 rw[apo];constructor
 ·intro k x hx;obtain⟨h0,h1⟩:=hh.2.2.range hx;obtain⟨n,rfl⟩:=mh h0;have:=k n (by rw[Nv];exact decide_eq_true ⟨hx,by omega⟩);rw[Nv,decide_eq_true_eq] at this;exact this.1
 ·intro k j hj;rw[Nv,decide_eq_true_eq] at hj ⊢;exact⟨k _ hj.1,hj.2⟩
instance (h:dU) (failed:List Int):Decidable (yS h failed):=Classical.propDecidable _
def Hl (l:List dU)(failed:List Int):Int:=(l.map fun h=>if yS h failed then h.1 else 0).sum
theorem aka {l:List dU}(hr:∀h,h∈l→sk h)(failed:List Int):jR l (fW failed)=Hl l failed:=by
 unfold jR Hl
 congr 1
 apply tS;intro h hh;by_cases hc:yS h failed
 ·rw[if_pos ((Xc (hr h hh) failed).2 hc),if_pos hc]
 ·rw[if_neg (fun e=>hc ((Xc (hr h hh) failed).1 e)),if_neg hc]
theorem Xb {l:List dU}(hr:Rt l)(failed:List Int):vu l failed=Hl l failed:=by
 unfold vu;rw[if_pos hr,aka fun h hh=>hr.held hh]
end Rm
namespace Rm
open Go Go.Proofs Cx
def pI (r:Realm)(e:Effect):Bool:=decide (e.binds=1)&&(decide (e.kind=1)||e.recourse)&&aC e.firm r.firms.length
def yc (r:Realm)(e:Effect):Int:=(r.firms.getD e.firm.toNat default).group
def jh (r:Realm)(l:List Effect):List Int:=(l.filter (pI r)).map (yc r)
def zC (l:List Int):List Int:=je (eX l)
def gD (r:Realm)(forum:Int)(f:File)(day:Int):dU:=(f.bill.sum,zC (jh r (oW r forum f day)))
theorem DQ {l:List Int}{x:Int}:x∈zC l↔x∈l:=by
 unfold zC;rw[adV (Hc l),ajO]
theorem ao4 (l:List Int):(zC l).Pairwise (·<·):=adW (Hc l)
theorem agJ {l:List Int}(hs:l.Pairwise (·<·))(hr:∀x,x∈l→0≤x∧x<20):lH l:=by
 intro k hk;have hg:l.getD k 0=l[k]:=by simp[aI,hk]
 have:=hr _ (cM hk);refine⟨by rw[hg];exact this.1,by rw[hg];exact this.2,fun h0=>?_⟩;have bQ:k-1<l.length:=by omega
 have mD:l.getD (k-1) 0=l[k-1]:=by simp[aI,bQ]
 rw[hg,mD];exact JF.1 hs (k-1) k bQ hk (by omega)
structure GrpOK (r:Realm):Prop where
 few:r.groups.length≤20
 grp:∀x,x∈r.firms→0≤x.group∧x.group<r.groups.length
theorem agG {r:Realm}(h:ix r=0):GrpOK r:=by
 unfold ix at h;rw[DP] at h;refine⟨?_,fun x hx=>?_⟩
 ·have h1:=h (Bk r) (by simp);unfold Bk at h1;split at h1
  ·cases h1
  ·omega
 ·obtain⟨k,hk,rfl⟩:=fj hx;have h1:=h (jH (nZ r) 200 (qJ r)) (by simp);unfold jH at h1;split at h1
  ·cases h1
  have h2:=F4.1 h1 k (by simpa [nZ] using hk);have h3:=(Ld h2).2;simp[qJ,aC,hk] at h3;omega
theorem agH {r:Realm}(h:GrpOK r){l:List Effect}{x:Int}(hx:x∈jh r l):0≤x∧x<r.groups.length:=by
 unfold jh at hx;rw[cZ] at hx;obtain⟨e,he,rfl⟩:=hx;rw[eO] at he;have hb:=he.2;simp[pI,aC] at hb;have af:e.firm.toNat<r.firms.length:=by omega
 have:=h.grp _ (cM af);have e1:r.firms.getD e.firm.toNat default=r.firms[e.firm.toNat]:=by simp[af]
 unfold yc;rw[e1];exact this
theorem Gz {r:Realm}(h:GrpOK r)(forum:Int){f:File}(hs:0≤f.bill.sum∧f.bill.sum≤1099511627776)(day:Int):sk (gD r forum f day):=by
 refine⟨hs.1,hs.2,agJ (ao4 _) fun x hx=>?_⟩;have:=agH h (DQ.1 hx);have:=h.few;omega
theorem aj4 {r:Realm}{a b:Effect}(hg:Ga a b=true)(hk:b.kind=a.kind)(hf:b.firm=a.firm)(h:pI r a=true):pI r b=true:=by
 simp[Ga] at hg;simp[pI] at h ⊢;obtain⟨⟨⟨g1,g2⟩,g3⟩,g4⟩:=hg;rw[hk,hf,←g4];refine⟨⟨?_,h.1.2⟩,h.2⟩;rcases g1 with g1|g1
 ·omega
 ·rw[g1];exact h.1.1
theorem UW {r:Realm}(forum:Int){f g:File}(h:MoreF f g)(day:Int){x:Int}(hx:x∈jh r (oW r forum f day)):x∈jh r (oW r forum g day):=by
 unfold jh at hx ⊢;rw[cZ] at hx ⊢;obtain⟨e,he,rfl⟩:=hx;rw[eO] at he;obtain⟨hm,hl⟩:=he;unfold oW at hm ⊢;rw[cZ] at hm;obtain⟨k,hk,rfl⟩:=hm;have ho:=am4 r forum h.same day;have km:=(h.same.at_ day).signs;have BU:MoreF (iT r forum f day).file (cO g day):=h.at_ day;have GC:(iT r forum f day).form=0∨(iT r forum f day).form=1∨(iT r forum f day).form=2:=D0 _;have hgr:=aeK BU (k:Int) GC;refine⟨mw (iT r forum g day) k,?_,?_⟩
 ·rw[eO];refine⟨cZ.2 ⟨k,?_,rfl⟩,?_⟩
  ·rw[ho];have:(dK (iT r forum f day) (cO g day)).file.signs=(iT r forum f day).file.signs:=km;rw[this];exact hk
  ·rw[ho];refine aj4 hgr ?_ ?_ hl
   ·show((cO g day).signs.getD _ default).kind=((cO f day).signs.getD _ default).kind;rw[km]
   ·show((cO g day).signs.getD _ default).who=((cO f day).signs.getD _ default).who;rw[km]
 ·rw[ho];unfold yc;have:(mw (dK (iT r forum f day) (cO g day)) k).firm=(mw (iT r forum f day) k).firm:=by
   show((cO g day).signs.getD _ default).who=((cO f day).signs.getD _ default).who;rw[km]
  rw[this]
theorem akc {r:Realm}(hG:GrpOK r)(forum:Int){f g:File}(h:MoreF f g)(hs:0≤f.bill.sum∧f.bill.sum≤1099511627776)(day:Int)(failed:List Int):vu [gD r forum g day] failed≤vu [gD r forum f day] failed:=by
 have hb:g.bill.sum=f.bill.sum:=by rw[h.same.bill]
 have r1:Rt [gD r forum f day]:=⟨by simp,fun k hk=>by obtain rfl:k=0:=(by simpa using hk);exact Gz hG forum hs day⟩
 have r2:Rt [gD r forum g day]:=⟨by simp,fun k hk=>by obtain rfl:k=0:=(by simpa using hk);exact Gz hG forum (by rw[hb];exact hs) day⟩
 rw[Xb r1,Xb r2];unfold Hl;simp only[eB,Ad,List.sum_cons,List.sum_nil,Int.add_zero];have e1:(gD r forum g day).1=(gD r forum f day).1:=hb;have h0:0≤(gD r forum f day).1:=hs.1;rw[e1];by_cases hc:yS (gD r forum g day) failed
 ·have LF:yS (gD r forum f day) failed:=fun x hx=>hc x (DQ.2 (UW forum h day (DQ.1 hx)));rw[if_pos hc,if_pos LF];exact Ea _
 ·rw[if_neg hc];split<;>omega
end Rm
namespace Rm
open Go Go.Proofs Cx
abbrev amv:Nat:=68
abbrev amu:Nat:=69
theorem Wx (l:List Int):(l.map D.int).map D.i=l:=by rw[Ac];exact List.map_id _
theorem aph (l:List Int)(h:l.length≤4294967296):ak T amv [.none,ints l] (.tup [.tup [],ints (eX l)]):=by
 refine .of_ext (g:=fun _ ds=>DT ds) rfl ⟨0,fun _ _=>?_⟩;show(if(l.map D.int).length≤4294967296 then some (D.tup [.tup [],ints (eX ((l.map D.int).map D.i))]) else none)=_;rw[Wx,if_pos (by simpa using h)]
theorem adH (l:List Int)(h:l.length≤4294967296):ak T amu [ints l] (ints (je l)):=by
 refine .of_ext (g:=fun _ ds=>FV ds) rfl ⟨0,fun _ _=>?_⟩;show(if(l.map D.int).length≤4294967296 then some (ints (je ((l.map D.int).map D.i))) else none)=_;rw[Wx,if_pos (by simpa using h)]
@[simp] theorem ayQ (a b x:D):cr [a,b] 1 [x]=[a,x]:=_root_.id rfl
theorem agI (r:Realm)(l:List Effect)(e:Effect):jh r (l++[e])=jh r l++if pI r e=true then[yc r e] else[]:=by
 unfold jh;rw[Ed,lx]
 congr 1
 cases h:pI r e<;>simp[List.filter,h]
theorem UU (r:Realm)(l:List Effect):(jh r l).length≤l.length:=by
 unfold jh;rw[eN];exact qh _ _
theorem aeM (r:Realm)(forum:Int)(f:File)(day:Int):(oW r forum f day).length≤f.signs.length:=by
 unfold oW;rw[eN,S4];exact(List.takeWhile_sublist _).length_le
theorem UB (r:Realm)(hR:Right r)(hD:RightD r)(forum:Int)(fs:List File)(hf:∀f,f∈fs→FewS f)(hl:fs.length≤1000)(day:Int):ak T 17 [bA r,.int forum,files fs,.int day] (gQ (fs.map fun f=>gD r forum f day)):=by
 refine .of_tree rfl (lA 54 (by kernel_rfl)) aqf ?_;simp[QR];refine aH.forRounds fs.length (fun k=>[.none,.int k]) (fun k=>[gQ ((fs.take k).map fun f=>gD r forum f day)]) ?_ (fun k hk=>?_) ?_
 ·simp[gQ]
 ·have hw:=bI hk (by omega);have gS:=hf _ (cM hk);have hE:=abw r hR hD forum fs[k] day gS;have fI:=aeM r forum fs[k] day;have su:=gS.signs;have hlen:((fs.take k).map fun f=>gD r forum f day).length=k:=by simp;omega
  have LR:fs[k]?=some fs[k]:=be hk;rw[gx hk,lx,eB,Ad];generalize (fs.take k).map (fun f=>gD r forum f day)=A at*;have hH:gD r forum fs[k] day=(fs[k].bill.sum,zC (jh r (oW r forum fs[k] day))):=rfl;generalize gD r forum fs[k] day=H at*;simp[aac,Is,hk,hw];generalize fs[k]=f at*;generalize oW r forum f day=l at*;refine⟨_,hE,?_⟩;refine aH.forRounds l.length (fun k=>[.int k]) (fun k=>[.agg [.int f.bill.sum,ki (jh r (l.take k))],ints (jh r (l.take k))]) ?_ (fun j hj=>?_) ?_
  ·simp[jh,ints,LR,ki]
  ·have eW:=bI hj (by omega);rw[gx hj,agI];have GF:=UU r (l.take j);rw[gd] at GF;generalize jh r (l.take j)=G at*;simp[aab,Ir,hj,eW];generalize l[j]=e at*;by_cases hb:pI r e=true
   ·have eh:=hb;simp[pI,aC] at eh;have af:e.firm.toNat<r.firms.length:=by omega
    have hg:yc r e=r.firms[e.firm.toNat].group:=by unfold yc;simp[af]
    rw[if_pos hb,hg];obtain⟨⟨b1,b2⟩,b3,b4⟩:=eh;simp[b1,b2,b3,b4,af];refine⟨by omega,?_⟩;simp[ints]
   ·rw[if_neg hb];have eh:=hb;have hn:¬(((e.binds=1∧(e.kind=1∨e.recourse=true))∧0≤e.firm)∧e.firm<r.firms.length):=fun h=>hb (by simp[pI,aC,h]);rw[if_neg hn];simp
  ·rw[JK];have GF:=UU r l;generalize jh r l=G at*;have hs:=aph G (by omega);have hc:=adH (eX G) (by rw[MW];omega);simp[aab,Ir];refine⟨_,hs,?_⟩;simp;refine⟨_,hc,?_⟩;simp;rw[ka,hH,eN,hlen];refine⟨by omega,?_⟩;simp[gQ,my,zC]
 ·simp[aac,Is]
end Rm
set_option maxRecDepth 100000
namespace Rm
open Go Go.Proofs Cx
def M7:PC:=
 (.seq
  (.is [.setR 0 (.con (.bool false))])
  (.seq
   (.is [.call [] 11 45 [],
     .setR 1 (.r 11)])
   (.seq
    (.is [.setR 13 (.r 1),
      .call [] 14 46 [(.r 13),(.con (.int 3)),(.con (.int 1))],
      .setR 12 (.r 14),
      .setR 15 (.tget (.r 12) 0),
      .setR 16 (.tget (.r 12) 1),
      .setR 17 (.tget (.r 12) 2),
      .setR 2 (.r 15),
      .setR 3 (.r 16),
      .setR 4 (.r 17)])
    (.seq
     (.is [.setR 19 (.r 1),
       .call [] 20 46 [(.r 19),(.con (.int 3)),(.con (.int 2))],
       .setR 18 (.r 20),
       .setR 21 (.tget (.r 18) 0),
       .setR 22 (.tget (.r 18) 1),
       .setR 23 (.tget (.r 18) 2),
       .setR 5 (.r 21),
       .setR 6 (.r 22),
       .setR 7 (.r 23)])
     (.seq
      (.is [.setR 25 (.r 1),
        .call [] 26 46 [(.r 25),(.con (.int 3)),(.con (.int 3))],
        .setR 24 (.r 26),
        .setR 27 (.tget (.r 24) 0),
        .setR 28 (.tget (.r 24) 1),
        .setR 29 (.tget (.r 24) 2),
        .setR 8 (.r 27),
        .setR 9 (.r 28),
        .setR 10 (.r 29)])
      (.seq
       (.seq
        (.is [.setR 30 (.r 4),
          .setR 31 (.ci .neq (.r 30) (.con (.int 0))),
          .setR 32 (.r 31),
          .setR 33 (.r 7),
          .setR 34 (.ci .neq (.r 33) (.con (.int 0))),
          .setR 35 (.pick (.r 32) (.con (.bool true)) (.r 34)),
          .setR 36 (.r 35),
          .setR 37 (.r 10),
          .setR 38 (.ci .neq (.r 37) (.con (.int 0))),
          .setR 39 (.pick (.r 36) (.con (.bool true)) (.r 38)),
          .setR 40 (.r 39),
          .setR 41 (.r 2),
          .setR 42 (.ci .neq (.r 41) (.con (.int 300))),
          .setR 43 (.pick (.r 40) (.con (.bool true)) (.r 42)),
          .setR 44 (.r 43),
          .setR 45 (.r 5),
          .setR 46 (.ci .neq (.r 45) (.con (.int 800))),
          .setR 47 (.pick (.r 44) (.con (.bool true)) (.r 46)),
          .setR 48 (.r 47),
          .setR 49 (.r 8),
          .setR 50 (.ci .neq (.r 49) (.con (.int 1100))),
          .setR 51 (.pick (.r 48) (.con (.bool true)) (.r 50))])
        (.ite (.r 51) [0] []
         (.seq
          (.is [.setR 0 (.con (.bool false))])
          (.ret (.r 0)))
         .skip))
       (.seq
        (.seq
         (.is [.setR 52 (.r 3),
          .setO 53 (.lst [(.con (.int 1))]),
          .setR 53 (.con .none),
          .call [] 54 47 [(.r 52),(.o 53)],
          .setR 55 (.nt (.r 54)),
          .setR 56 (.r 55),
          .setR 57 (.r 6),
          .setR 58 (.lst [(.con (.int 0)),(.con (.int 1))]),
          .call [(56,false)] 59 47 [(.r 57),(.r 58)],
          .setR 60 (.nt (.r 59)),
          .setR 61 (.pick (.r 56) (.con (.bool true)) (.r 60)),
          .setR 62 (.r 61),
          .setR 63 (.r 9),
          .setR 64 (.lst [(.con (.int 0)),(.con (.int 1)),(.con (.int 2))]),
          .call [(62,false)] 65 47 [(.r 63),(.r 64)],
          .setR 66 (.nt (.r 65)),
          .setR 67 (.pick (.r 62) (.con (.bool true)) (.r 66)),
          .setR 68 (.r 67),
          .setR 69 (.r 1),
          .call [(68,false)] 70 20 [(.r 69)],
          .setR 71 (.nt (.r 70)),
          .setR 72 (.pick (.r 68) (.con (.bool true)) (.r 71))])
         (.ite (.r 72) [0] []
          (.seq
           (.is [.setR 0 (.con (.bool false))])
           (.ret (.r 0)))
          .skip))
        (.seq
         (.is [.setR 73 (.r 1),
          .setO 74 (.lst [(.con (.int 1))]),
          .setR 74 (.con .none),
          .call [] 75 18 [(.r 73),(.o 74)],
          .setR 76 (.ci .eql (.r 75) (.con (.int 300))),
          .setR 77 (.r 76),
          .setR 78 (.r 1),
          .setR 79 (.lst [(.con (.int 1)),(.con (.int 0))]),
          .call [(77,true)] 80 18 [(.r 78),(.r 79)],
          .setR 81 (.ci .eql (.r 80) (.con (.int 800))),
          .setR 82 (.pick (.r 77) (.r 81) (.con (.bool false))),
          .setR 83 (.r 82),
          .setR 84 (.r 1),
          .call [(83,true)] 85 18 [(.r 84),(.con (.list []))],
          .setR 86 (.ci .eql (.r 85) (.con (.int 0))),
          .setR 87 (.pick (.r 83) (.r 86) (.con (.bool false))),
          .setR 88 (.r 87),
          .setR 89 (.r 1),
          .call [(88,true)] 90 48 [(.r 89),(.con (.int 3))],
          .setR 91 (.lst [(.con (.int 0)),(.con (.int 300)),(.con (.int 100))]),
          .call [(88,true)] 92 47 [(.r 90),(.r 91)],
          .setR 93 (.pick (.r 88) (.r 92) (.con (.bool false))),
          .setR 94 (.r 93),
          .setR 95 (.r 1),
          .setR 96 (.lst [(.con (.int 0)),(.con (.int 300)),(.con (.int 50))]),
          .call [(94,true)] 97 49 [(.r 95),(.r 96)],
          .setR 98 (.lst [(.con (.int 2))]),
          .call [(94,true)] 99 47 [(.r 97),(.r 98)],
          .setR 100 (.pick (.r 94) (.r 99) (.con (.bool false))),
          .setR 0 (.r 100)])
         (.ret (.r 0))))))))))
theorem alI:xb=some M7:=by kernel_rfl
theorem alT:tab 12=some M7:=by rw[acv,←alI,←(av xb Yj)]
def Na:PC:=
 (.seq
  (.is [.setR 0 (.con (.list []))])
  (.seq
   (.is [.setO 1 (.lst [(.con (.int 0)),(.con (.int 1))]),
     .setR 1 (.con .none),
     .setR 2 (.mk [(.con (.int 500)),(.o 1)]),
     .setO 3 (.lst [(.con (.int 1))]),
     .setR 3 (.con .none),
     .setR 4 (.mk [(.con (.int 300)),(.o 3)]),
     .setO 5 (.lst [(.con (.int 0)),(.con (.int 2))]),
     .setR 5 (.con .none),
     .setR 6 (.mk [(.con (.int 200)),(.o 5)]),
     .setO 7 (.lst [(.con (.int 2))]),
     .setR 7 (.con .none),
     .setR 8 (.mk [(.con (.int 100)),(.o 7)]),
     .setO 9 (.lst [(.r 2),(.r 4),(.r 6),(.r 8)]),
     .setR 9 (.con .none),
     .setR 0 (.o 9)])
   (.ret (.r 0))))
theorem alL:w9=some Na:=by kernel_rfl
theorem alX:tab 45=some Na:=by rw[acu,←alL,←(av w9 Yi)]
def acQ:PC:=
 (.seq
  (.is [.setR 53 (.ci .lss (.r 52) (.r 51))])
  (.seq
   (.ite (.r 53) [] []
    .skip
    (.exit 2))
   (.seq
    (.block 3 [12,54,55,56,57,58] [11]
     (.seq
      (.is [.setR 54 (.r 52),
        .setR 12 (.r 54)])
      (.is [.setR 55 (.r 11),
        .setR 56 (.r 12),
        .setR 57 (.r 12),
        .chk (.idx (.o 11) (.r 56)),
        .setR 58 (.r 56),
        .setO 11 (.setn (.o 11) (.r 58) 0 (.r 57))])))
    (.is [.setR 59 (.ai .add .i64 (.r 52) (.con (.int 1))),
      .setR 52 (.r 59)]))))
def akf:PC:=.block 2 [52,53] [11] (.loop [52] [11] acQ)
def acR:PC:=
 (.seq
  (.seq
   (.is [.setR 73 (.r 14),
     .setR 74 (.ci .geq (.r 73) (.con (.int 0))),
     .setR 75 (.r 74),
     .setR 76 (.r 11),
     .setR 77 (.r 14),
     .chk (.imp [(75,true)] (.idx (.o 11) (.r 77))),
     .setR 78 (.r 77),
     .setR 79 (.nth (.o 11) (.r 78)),
     .setR 80 (.r 1),
     .setR 81 (.r 10),
     .setR 82 (.ai .sub .i64 (.r 80) (.r 81)),
     .setR 83 (.r 14),
     .setR 84 (.ai .add .i64 (.r 82) (.r 83)),
     .setR 85 (.ci .eql (.r 79) (.r 84)),
     .setR 86 (.pick (.r 75) (.r 85) (.con (.bool false)))])
   (.ite (.r 86) [] []
    .skip
    (.exit 6)))
  (.block 7 [14,87,88] []
   (.is [.setR 87 (.r 14),
     .setR 88 (.ai .sub .i64 (.r 87) (.con (.int 1))),
     .setR 14 (.r 88)])))
def akg:PC:=.block 6 [14,73,74,75,86] [] (.loop [14] [] acR)
def acS:PC:=
 (.seq
  (.seq
   (.is [.setR 99 (.r 15),
     .setR 100 (.r 10),
     .setR 101 (.ci .lss (.r 99) (.r 100))])
   (.ite (.r 101) [] []
    .skip
    (.exit 8)))
  (.seq
   (.block 9 [104,105,106,107,108,109,110,111,112] [11]
    (.is [.setR 104 (.r 11),
      .setR 105 (.r 15),
      .setR 106 (.r 11),
      .setR 107 (.r 15),
      .setR 108 (.ai .sub .i64 (.r 107) (.con (.int 1))),
      .chk (.idx (.o 11) (.r 108)),
      .setR 109 (.r 108),
      .setR 110 (.nth (.o 11) (.r 109)),
      .setR 111 (.ai .add .i64 (.r 110) (.con (.int 1))),
      .chk (.idx (.o 11) (.r 105)),
      .setR 112 (.r 105),
      .setO 11 (.setn (.o 11) (.r 112) 0 (.r 111))]))
   (.is [.setR 102 (.r 15),
     .setR 103 (.ai .add .i64 (.r 102) (.con (.int 1))),
     .setR 15 (.r 103)])))
def akh:PC:=.block 8 [15,99,100,101] [11] (.loop [15] [11] acS)
def acT:PC:=
 (.block 5 [6,7,13,14,15,60,61,62,63,64,65,66,67,71,72,73,74,75,86,89,90,91,92,93,94,95,96,97,98,99,100,101] [11]
  (.seq
   (.seq
    (.is [.setR 60 (.r 0),
      .setR 61 (.r 9),
      .setR 62 (.r 11),
      .call [] 63 72 [(.o 11)],
      .call [] 64 70 [(.r 60),(.r 61),(.r 63)],
      .setR 13 (.r 64)])
    (.seq
     (.is [.setR 65 (.r 13),
       .setR 66 (.r 6),
       .setR 67 (.ci .gtr (.r 65) (.r 66))])
     (.ite (.r 67) [6,7] []
      (.is [.setR 68 (.r 13),
        .setR 69 (.r 11),
        .call [] 70 100 [(.o 11)],
        .setO 70 (.r 70),
        .setR 70 (.con .none),
        .setR 6 (.r 68),
        .setR 7 (.o 70)])
      .skip)))
   (.seq
    (.is [.setR 71 (.r 10),
      .setR 72 (.ai .sub .i64 (.r 71) (.con (.int 1))),
      .setR 14 (.r 72)])
    (.seq
     akg
     (.seq
      (.seq
       (.is [.setR 89 (.r 14),
         .setR 90 (.ci .lss (.r 89) (.con (.int 0)))])
       (.ite (.r 90) [] []
        (.exit 4)
        .skip))
      (.seq
       (.is [.setR 91 (.r 11),
         .setR 92 (.r 14),
         .chk (.idx (.o 11) (.r 92)),
         .setR 93 (.r 92),
         .setR 94 (.nth (.o 11) (.r 93)),
         .setR 95 (.ai .add .i64 (.r 94) (.con (.int 1))),
         .chk (.idx (.o 11) (.r 92)),
         .setR 96 (.r 92),
         .setO 11 (.setn (.o 11) (.r 96) 0 (.r 95))])
       (.seq
        (.is [.setR 97 (.r 14),
          .setR 98 (.ai .add .i64 (.r 97) (.con (.int 1))),
          .setR 15 (.r 98)])
        akh)))))))
def aki:PC:=.block 4 [6,7,13,14,60,61,62,63,64,65,66,67,71,72,73,74,75,86,89,90] [11] (.loop [6,7] [11] acT)
def acU:PC:=
 (.seq
  (.seq
   (.is [.setR 43 (.r 10),
     .setR 44 (.r 2),
     .setR 45 (.ci .leq (.r 43) (.r 44))])
   (.ite (.r 45) [] []
    .skip
    (.exit 0)))
  (.seq
   (.block 1 [6,7,11,13,14,48,50,51,52,53,60,61,62,63,64,65,66,67,71,72,73,74,75,86,89,90] [11]
    (.seq
     (.is [.setR 48 (.r 10),
       .chk (.an (.ci .geq (.r 48) (.con (.int 0))) (.ci .leq (.r 48) (.con (.int 4294967296)))),
       .chk (.ci .eql (.r 48) (.r 48)),
       .setO 49 (.rep (.r 48) (.con (.int 0))),
       .setR 49 (.con .none),
       .setR 11 (.r 49),
       .setO 11 (.o 49)])
     (.seq
      (.seq
       (.is [.setR 50 (.r 11),
         .setR 51 (.llen (.o 11)),
         .setR 52 (.con (.int 0))])
       akf)
      aki)))
   (.is [.setR 46 (.r 10),
     .setR 47 (.ai .add .i64 (.r 46) (.con (.int 1))),
     .setR 10 (.r 47)])))
def akj:PC:=.block 0 [6,7,10,43,44,45] [] (.loop [6,7,10] [] acU)
def Nb:PC:=
 (.seq
  (.is [.setR 6 (.con (.int 0)),
    .setR 7 (.con (.list [])),
    .setR 8 (.con (.int 0))])
  (.seq
   (.seq
    (.is [.setR 16 (.r 0),
      .call [] 17 20 [(.r 16)],
      .setR 18 (.nt (.r 17)),
      .setR 19 (.r 18),
      .setR 20 (.r 1),
      .setR 21 (.ci .lss (.r 20) (.con (.int 0))),
      .setR 22 (.pick (.r 19) (.con (.bool true)) (.r 21)),
      .setR 23 (.r 22),
      .setR 24 (.r 1),
      .setR 25 (.ci .gtr (.r 24) (.con (.int 20))),
      .setR 26 (.pick (.r 23) (.con (.bool true)) (.r 25)),
      .setR 27 (.r 26),
      .setR 28 (.r 2),
      .setR 29 (.ci .lss (.r 28) (.con (.int 0))),
      .setR 30 (.pick (.r 27) (.con (.bool true)) (.r 29)),
      .setR 31 (.r 30),
      .setR 32 (.r 2),
      .setR 33 (.r 1),
      .setR 34 (.ci .gtr (.r 32) (.r 33)),
      .setR 35 (.pick (.r 31) (.con (.bool true)) (.r 34))])
    (.ite (.r 35) [6,7,8] []
     (.seq
      (.is [.setR 6 (.con (.int 0)),
        .setR 7 (.con (.list [])),
        .setR 8 (.con (.int 1))])
      (.ret (.tup [(.r 6),(.r 7),(.r 8)])))
     .skip))
   (.seq
    (.seq
     (.is [.setR 36 (.r 2),
       .setR 37 (.ci .gtr (.r 36) (.con (.int 6)))])
     (.ite (.r 37) [6,7,8] []
      (.seq
       (.is [.setR 6 (.con (.int 0)),
        .setR 7 (.con (.list [])),
        .setR 8 (.con (.int 6))])
       (.ret (.tup [(.r 6),(.r 7),(.r 8)])))
      .skip))
    (.seq
     (.is [.setR 38 (.r 0),
       .call [] 39 71 [(.r 38)],
       .setR 9 (.r 39)])
     (.seq
      (.is [.setR 40 (.r 0),
        .setR 41 (.r 9),
        .call [] 42 70 [(.r 40),(.r 41),(.con (.v (.int .u32 0)))],
        .setR 6 (.r 42)])
      (.seq
       (.seq
        (.is [.setR 10 (.con (.int 1))])
        akj)
       (.seq
        (.is [.setR 113 (.r 6),
          .setR 114 (.r 7),
          .setR 6 (.r 113),
          .setR 7 (.r 114),
          .setR 8 (.con (.int 0))])
        (.ret (.tup [(.r 6),(.r 7),(.r 8)])))))))))
theorem alM:uk=some Nb:=by kernel_rfl
theorem alY:tab 46=some Nb:=by rw[acs,←alM,←(av uk Yh)]
def acV:PC:=
 (.seq
  (.seq
   (.is [.setR 11 (.r 5),
     .setR 12 (.r 0),
     .setR 13 (.llen (.r 12)),
     .setR 14 (.ci .lss (.r 11) (.r 13))])
   (.ite (.r 14) [] []
    .skip
    (.exit 0)))
  (.seq
   (.block 1 [4,17,18,19,20,21,22,23,24,25] []
    (.seq
     (.is [.setR 17 (.r 0),
       .setR 18 (.r 5),
       .chk (.idx (.r 17) (.r 18)),
       .setR 19 (.ref (.nth (.r 17) (.r 18))),
       .setR 20 (.deref (.r 19)),
       .setR 21 (.r 1),
       .setR 22 (.r 5),
       .chk (.idx (.r 21) (.r 22)),
       .setR 23 (.ref (.nth (.r 21) (.r 22))),
       .setR 24 (.deref (.r 23)),
       .setR 25 (.ci .neq (.r 20) (.r 24))])
     (.ite (.r 25) [4] []
      (.seq
       (.is [.setR 4 (.con (.bool false))])
       (.ret (.r 4)))
      .skip)))
   (.is [.setR 15 (.r 5),
     .setR 16 (.ai .add .i64 (.r 15) (.con (.int 1))),
     .setR 5 (.r 16)])))
def akk:PC:=.block 0 [4,5,11,12,13,14] [] (.loop [4,5] [] acV)
def Nc:PC:=
 (.seq
  (.is [.setR 4 (.con (.bool false))])
  (.seq
   (.seq
    (.is [.setR 6 (.r 0),
      .setR 7 (.llen (.r 6)),
      .setR 8 (.r 1),
      .setR 9 (.llen (.r 8)),
      .setR 10 (.ci .neq (.r 7) (.r 9))])
    (.ite (.r 10) [4] []
     (.seq
      (.is [.setR 4 (.con (.bool false))])
      (.ret (.r 4)))
     .skip))
   (.seq
    (.seq
     (.is [.setR 5 (.con (.int 0))])
     akk)
    (.seq
     (.is [.setR 4 (.con (.bool true))])
     (.ret (.r 4))))))
theorem alN:uo=some Nc:=by kernel_rfl
theorem alZ:tab 47=some Nc:=by rw[acx,←alN,←(av uo Yt)]
def acO:PC:=
 (.seq
  (.is [.setR 28 (.ci .lss (.r 27) (.r 26))])
  (.seq
   (.ite (.r 28) [] []
    .skip
    (.exit 2))
   (.seq
    (.block 3 [2,5,6,29,30,31,32,33,34,37,38,51] []
     (.seq
      (.is [.setR 29 (.r 27),
        .chk (.idx (.r 25) (.r 27)),
        .setR 30 (.ref (.nth (.r 25) (.r 27))),
        .setR 31 (.deref (.r 30)),
        .setR 5 (.r 29),
        .setR 6 (.r 31)])
      (.seq
       (.is [.setR 32 (.r 6),
         .setR 33 (.ci .lss (.r 32) (.con (.int 0))),
         .setR 34 (.r 33),
         .setR 35 (.r 6),
         .setR 36 (.ci .geq (.r 35) (.con (.int 20))),
         .setR 37 (.pick (.r 34) (.con (.bool true)) (.r 36)),
         .setR 38 (.r 37),
         .setR 39 (.r 5),
         .setR 40 (.ci .gtr (.r 39) (.con (.int 0))),
         .setR 41 (.r 40),
         .setR 42 (.r 6),
         .setR 43 (.con .none),
         .setR 44 (.cell (.o 4) 1),
         .setR 45 (.r 5),
         .setR 46 (.ai .sub .i64 (.r 45) (.con (.int 1))),
         .chk (.imp [(41,true),(38,false)] (.idx (.r 44) (.r 46))),
         .setR 47 (.ref (.nth (.r 44) (.r 46))),
         .setR 48 (.deref (.r 47)),
         .setR 49 (.ci .leq (.r 42) (.r 48)),
         .setR 50 (.pick (.r 41) (.r 49) (.con (.bool false))),
         .setR 51 (.pick (.r 38) (.con (.bool true)) (.r 50))])
       (.ite (.r 51) [2] []
        (.seq
         (.is [.setR 2 (.con (.bool false))])
         (.ret (.r 2)))
        .skip))))
    (.is [.setR 52 (.ai .add .i64 (.r 27) (.con (.int 1))),
      .setR 27 (.r 52)]))))
def akd:PC:=.block 2 [2,27,28] [] (.loop [2,27] [] acO)
def acP:PC:=
 (.seq
  (.is [.setR 13 (.ci .lss (.r 12) (.r 11))])
  (.seq
   (.ite (.r 13) [] []
    .skip
    (.exit 0))
   (.seq
    (.block 1 [2,4,14,15,16,17,18,19,23,24,25,26,27,28] [4,8196]
     (.seq
      (.is [.chk (.idx (.r 10) (.r 12)),
        .setR 14 (.ref (.nth (.r 10) (.r 12))),
        .setR 15 (.deref (.r 14)),
        .setO 4 (.con (.agg [(.int 0),(.list [])])),
        .setR 4 (.con .none),
        .setO 8196 (.con (.list [])),
        .setO 4 (.setc (.o 4) 0 (.r 15))])
      (.seq
       (.seq
        (.is [.setR 16 (.con .none),
          .setR 17 (.cell (.o 4) 0),
          .setR 18 (.ci .lss (.r 17) (.con (.int 0))),
          .setR 19 (.r 18),
          .setR 20 (.con .none),
          .setR 21 (.cell (.o 4) 0),
          .setR 22 (.ci .gtr (.r 21) (.con (.int 1099511627776))),
          .setR 23 (.pick (.r 19) (.con (.bool true)) (.r 22))])
        (.ite (.r 23) [2] []
         (.seq
          (.is [.setR 2 (.con (.bool false))])
          (.ret (.r 2)))
         .skip))
       (.seq
        (.is [.setR 24 (.con .none),
          .setR 25 (.cell (.o 4) 1),
          .setR 26 (.llen (.r 25)),
          .setR 27 (.con (.int 0))])
        akd))))
    (.is [.setR 53 (.ai .add .i64 (.r 12) (.con (.int 1))),
      .setR 12 (.r 53)]))))
def ake:PC:=.block 0 [2,12,13] [] (.loop [2,12] [] acP)
def M9:PC:=
 (.seq
  (.is [.setR 2 (.con (.bool false))])
  (.seq
   (.seq
    (.is [.setR 7 (.r 0),
      .setR 8 (.llen (.r 7)),
      .setR 9 (.ci .gtr (.r 8) (.con (.int 100)))])
    (.ite (.r 9) [2] []
     (.seq
      (.is [.setR 2 (.con (.bool false))])
      (.ret (.r 2)))
     .skip))
   (.seq
    (.seq
     (.is [.setR 10 (.r 0),
       .setR 11 (.llen (.r 10)),
       .setR 12 (.con (.int 0))])
     ake)
    (.seq
     (.is [.setR 2 (.con (.bool true))])
     (.ret (.r 2))))))
theorem alK:qy=some M9:=by kernel_rfl
theorem alW:tab 20=some M9:=by rw[Tx,←alK,←(av qy CF)]
def M8:PC:=
 (.seq
  (.is [.setR 4 (.con (.int 0))])
  (.seq
   (.seq
    (.is [.setR 5 (.r 0),
      .call [] 6 20 [(.r 5)],
      .setR 7 (.nt (.r 6))])
    (.ite (.r 7) [4] []
     (.seq
      (.is [.setR 4 (.con (.int 0))])
      (.ret (.r 4)))
     .skip))
   (.seq
    (.is [.setR 8 (.r 0),
      .setR 9 (.r 0),
      .call [] 10 71 [(.r 9)],
      .setR 11 (.r 1),
      .call [] 12 72 [(.r 11)],
      .call [] 13 70 [(.r 8),(.r 10),(.r 12)],
      .setR 4 (.r 13)])
    (.ret (.r 4)))))
theorem alJ:ui=some M8:=by kernel_rfl
theorem alU:tab 18=some M8:=by rw[Tw,←alJ,←(av ui NP)]
def acW:PC:=
 (.seq
  (.is [.setR 25 (.ci .lss (.r 24) (.r 23))])
  (.seq
   (.ite (.r 25) [] []
    .skip
    (.exit 0))
   (.seq
    (.block 1 [7,26,27,28,29,30,31,32,33,34] [5]
     (.seq
      (.is [.setR 26 (.r 24),
        .setR 7 (.r 26)])
      (.is [.setR 27 (.r 5),
        .setR 28 (.r 7),
        .setR 29 (.r 0),
        .setR 30 (.r 6),
        .setR 31 (.r 7),
        .chk (.ci .geq (.r 31) (.con (.int 0))),
        .setR 32 (.ai .shl .u32 (.con (.v (.int .u32 1))) (.r 31)),
        .call [] 33 70 [(.r 29),(.r 30),(.r 32)],
        .chk (.idx (.o 5) (.r 28)),
        .setR 34 (.r 28),
        .setO 5 (.setn (.o 5) (.r 34) 0 (.r 33))])))
    (.is [.setR 35 (.ai .add .i64 (.r 24) (.con (.int 1))),
      .setR 24 (.r 35)]))))
def akl:PC:=.block 0 [24,25] [5] (.loop [24] [5] acW)
def Nd:PC:=
 (.seq
  (.is [.setR 4 (.con (.list []))])
  (.seq
   (.seq
    (.is [.setR 8 (.r 0),
      .call [] 9 20 [(.r 8)],
      .setR 10 (.nt (.r 9)),
      .setR 11 (.r 10),
      .setR 12 (.r 1),
      .setR 13 (.ci .lss (.r 12) (.con (.int 0))),
      .setR 14 (.pick (.r 11) (.con (.bool true)) (.r 13)),
      .setR 15 (.r 14),
      .setR 16 (.r 1),
      .setR 17 (.ci .gtr (.r 16) (.con (.int 20))),
      .setR 18 (.pick (.r 15) (.con (.bool true)) (.r 17))])
    (.ite (.r 18) [4] []
     (.seq
      (.is [.setR 4 (.con (.list []))])
      (.ret (.r 4)))
     .skip))
   (.seq
    (.is [.setR 19 (.r 1),
      .chk (.an (.ci .geq (.r 19) (.con (.int 0))) (.ci .leq (.r 19) (.con (.int 4294967296)))),
      .chk (.ci .eql (.r 19) (.r 19)),
      .setO 20 (.rep (.r 19) (.con (.int 0))),
      .setR 20 (.con .none),
      .setR 5 (.r 20),
      .setO 5 (.o 20)])
    (.seq
     (.is [.setR 21 (.r 0),
       .call [] 22 71 [(.r 21)],
       .setR 6 (.r 22)])
     (.seq
      (.seq
       (.is [.setR 23 (.r 1),
        .setR 24 (.con (.int 0))])
       akl)
      (.seq
       (.is [.setR 36 (.r 5),
        .setR 4 (.o 5)])
       (.ret (.r 4))))))))
theorem alO:uh=some Nd:=by kernel_rfl
theorem al0:tab 48=some Nd:=by rw[acq,←alO,←(av uh Yf)]
def acX:PC:=
 (.seq
  (.is [.setR 14 (.ci .lss (.r 13) (.r 12))])
  (.seq
   (.ite (.r 14) [] []
    .skip
    (.exit 0))
   (.seq
    (.block 1 [5,6,7,15,16,17,18,19,20,21,22,23] [5]
     (.seq
      (.is [.setR 15 (.r 13),
        .chk (.idx (.r 11) (.r 13)),
        .setR 16 (.ref (.nth (.r 11) (.r 13))),
        .setR 17 (.deref (.r 16)),
        .setR 6 (.r 15),
        .setR 7 (.r 17)])
      (.seq
       (.is [.setR 18 (.r 7),
         .setR 19 (.r 1),
         .setR 20 (.r 6),
         .chk (.idx (.r 19) (.r 20)),
         .setR 21 (.ref (.nth (.r 19) (.r 20))),
         .setR 22 (.deref (.r 21)),
         .setR 23 (.ci .gtr (.r 18) (.r 22))])
       (.ite (.r 23) [5] [5]
        (.is [.setR 24 (.r 5),
          .setR 25 (.r 6),
          .setO 26 (.lst [(.r 25)]),
          .setR 26 (.con .none),
          .chk (.ci .leq (.llen (.app (.o 5) (.o 26))) (.con (.int 4294967296))),
          .setO 5 (.app (.o 5) (.o 26)),
          .setR 27 (.con .none),
          .setR 5 (.r 27)])
        .skip))))
    (.is [.setR 28 (.ai .add .i64 (.r 13) (.con (.int 1))),
      .setR 13 (.r 28)]))))
def akm:PC:=.block 0 [5,13,14] [5] (.loop [5,13] [5] acX)
def Nf:PC:=
 (.seq
  (.is [.setR 4 (.con (.list []))])
  (.seq
   (.is [.setO 5 (.con (.list [])),
     .setR 5 (.con .none)])
   (.seq
    (.seq
     (.is [.setR 8 (.r 0),
       .setR 9 (.r 1),
       .setR 10 (.llen (.r 9)),
       .call [] 11 48 [(.r 8),(.r 10)],
       .setR 12 (.llen (.r 11)),
       .setR 13 (.con (.int 0))])
     akm)
    (.seq
     (.is [.setR 29 (.r 5),
       .setR 4 (.o 5)])
     (.ret (.r 4))))))
theorem alP:uj=some Nf:=by kernel_rfl
theorem al3:tab 49=some Nf:=by rw[acr,←alP,←(av uj Yg)]
def ac0:PC:=
 (.seq
  (.is [.setR 9 (.ci .lss (.r 8) (.r 7))])
  (.seq
   (.ite (.r 9) [] []
    .skip
    (.exit 0))
   (.seq
    (.block 1 [3,5,10,11,12,13,14,17] []
     (.seq
      (.is [.chk (.idx (.r 6) (.r 8)),
        .setR 10 (.ref (.nth (.r 6) (.r 8))),
        .setR 11 (.deref (.r 10)),
        .setR 5 (.r 11)])
      (.seq
       (.is [.setR 12 (.r 5),
         .setR 13 (.ci .geq (.r 12) (.con (.int 0))),
         .setR 14 (.r 13),
         .setR 15 (.r 5),
         .setR 16 (.ci .lss (.r 15) (.con (.int 20))),
         .setR 17 (.pick (.r 14) (.r 16) (.con (.bool false)))])
       (.ite (.r 17) [3] []
        (.is [.setR 18 (.r 3),
          .setR 19 (.r 5),
          .chk (.ci .geq (.r 19) (.con (.int 0))),
          .setR 20 (.ai .shl .u32 (.con (.v (.int .u32 1))) (.r 19)),
          .setR 21 (.ai .or .u32 (.r 18) (.r 20)),
          .setR 3 (.r 21)])
        .skip))))
    (.is [.setR 22 (.ai .add .i64 (.r 8) (.con (.int 1))),
      .setR 8 (.r 22)]))))
def akp:PC:=.block 0 [3,8,9] [] (.loop [3,8] [] ac0)
def Ni:PC:=
 (.seq
  (.is [.setR 2 (.con (.v (.int .u32 0)))])
  (.seq
   (.is [.setR 3 (.con (.v (.int .u32 0)))])
   (.seq
    (.seq
     (.is [.setR 6 (.r 0),
       .setR 7 (.llen (.r 6)),
       .setR 8 (.con (.int 0))])
     akp)
    (.seq
     (.is [.setR 23 (.r 3),
       .setR 2 (.r 23)])
     (.ret (.r 2))))))
theorem alS:qA=some Ni:=by kernel_rfl
theorem al6:tab 72=some Ni:=by rw[TA,←alS,←(av qA HC)]
def acY:PC:=
 (.seq
  (.is [.setR 13 (.ci .lss (.r 12) (.r 11))])
  (.seq
   (.ite (.r 13) [] []
    .skip
    (.exit 0))
   (.seq
    (.block 1 [7,8,9,14,15,16,17,18,19,20,21,22,23] [9,8201]
     (.seq
      (.is [.setR 14 (.r 12),
        .chk (.idx (.r 10) (.r 12)),
        .setR 15 (.ref (.nth (.r 10) (.r 12))),
        .setR 16 (.deref (.r 15)),
        .setO 9 (.con (.agg [(.int 0),(.list [])])),
        .setR 9 (.con .none),
        .setO 8201 (.con (.list [])),
        .setR 8 (.r 14),
        .setO 9 (.setc (.o 9) 0 (.r 16))])
      (.seq
       (.is [.setR 17 (.r 1),
         .setR 18 (.r 8),
         .chk (.idx (.r 17) (.r 18)),
         .setR 19 (.ref (.nth (.r 17) (.r 18))),
         .setR 20 (.deref (.r 19)),
         .setR 21 (.r 2),
         .setR 22 (.ai .andNot .u32 (.r 20) (.r 21)),
         .setR 23 (.ci .eql (.r 22) (.con (.v (.int .u32 0))))])
       (.ite (.r 23) [7] []
        (.is [.setR 24 (.r 7),
          .setR 25 (.con .none),
          .setR 26 (.cell (.o 9) 0),
          .setR 27 (.ai .add .i64 (.r 24) (.r 26)),
          .setR 7 (.r 27)])
        .skip))))
    (.is [.setR 28 (.ai .add .i64 (.r 12) (.con (.int 1))),
      .setR 12 (.r 28)]))))
def akn:PC:=.block 0 [7,12,13] [] (.loop [7,12] [] acY)
def Ng:PC:=
 (.seq
  (.is [.setR 6 (.con (.int 0))])
  (.seq
   (.is [.setR 7 (.con (.int 0))])
   (.seq
    (.seq
     (.is [.setR 10 (.r 0),
       .setR 11 (.llen (.r 10)),
       .setR 12 (.con (.int 0))])
     akn)
    (.seq
     (.is [.setR 29 (.r 7),
       .setR 6 (.r 29)])
     (.ret (.r 6))))))
theorem alQ:qz=some Ng:=by kernel_rfl
theorem al4:tab 70=some Ng:=by rw[Tz,←alQ,←(av qz HB)]
def acZ:PC:=
 (.seq
  (.is [.setR 9 (.ci .lss (.r 8) (.r 7))])
  (.seq
   (.ite (.r 9) [] []
    .skip
    (.exit 0))
   (.seq
    (.block 1 [3,5,10,11,13,14,15,16,17] [5,8197,3,16]
     (.seq
      (.is [.chk (.idx (.r 6) (.r 8)),
        .setR 10 (.ref (.nth (.r 6) (.r 8))),
        .setR 11 (.deref (.r 10)),
        .setO 5 (.con (.agg [(.int 0),(.list [])])),
        .setR 5 (.con .none),
        .setO 8197 (.con (.list [])),
        .setO 5 (.setc (.o 5) 0 (.r 11))])
      (.is [.setR 12 (.r 3),
        .setR 13 (.con .none),
        .setR 14 (.cell (.o 5) 1),
        .call [] 15 72 [(.r 14)],
        .setO 16 (.lst [(.r 15)]),
        .setR 16 (.con .none),
        .chk (.ci .leq (.llen (.app (.o 3) (.o 16))) (.con (.int 4294967296))),
        .setO 3 (.app (.o 3) (.o 16)),
        .setR 17 (.con .none),
        .setR 3 (.r 17)])))
    (.is [.setR 18 (.ai .add .i64 (.r 8) (.con (.int 1))),
      .setR 8 (.r 18)]))))
def ako:PC:=.block 0 [3,8,9] [3] (.loop [3,8] [3] acZ)
def Nh:PC:=
 (.seq
  (.is [.setR 2 (.con (.list []))])
  (.seq
   (.is [.setO 3 (.con (.list [])),
     .setR 3 (.con .none)])
   (.seq
    (.seq
     (.is [.setR 6 (.r 0),
       .setR 7 (.llen (.r 6)),
       .setR 8 (.con (.int 0))])
     ako)
    (.seq
     (.is [.setR 19 (.r 3),
       .setR 2 (.o 3)])
     (.ret (.r 2))))))
theorem alR:qB=some Nh:=by kernel_rfl
theorem al5:tab 71=some Nh:=by rw[TB,←alR,←(av qB HD)]
def Uu:List (Nat×PC):=[(12,M7),(45,Na),(46,Nb),(47,Nc),(20,M9),(18,M8),(48,Nd),(49,Nf),(72,Ni),(70,Ng),(71,Nh)]
def K5:Nat→Option PC:=bu Uu
theorem aeX:∀f pc,K5 f=some pc→tab f=some pc∧ext f=none:=
 Cy (R:=fun f pc=>tab f=some pc∧ext f=none) (l:=Uu) ⟨⟨alT,rfl⟩,⟨alX,rfl⟩,⟨alY,rfl⟩,⟨alZ,rfl⟩,⟨alW,rfl⟩,⟨alU,rfl⟩,⟨al0,rfl⟩,⟨al3,rfl⟩,⟨al6,rfl⟩,⟨al4,rfl⟩,⟨al5,rfl⟩,trivial⟩
def F0:Nat→Option (aJ→List D→Option D):=fun f=>bif Nat.beq f 100 then some (fun _ ds=>FP ds) else none
theorem Uv:∀n,Le (cH K5 F0 n) (cH tab ext n)
 |0=>fun f ds d h=>by simp[cH] at h
 |n+1=>by
  have ih:=Uv n;intro f ds d h;unfold cH at h ⊢;cases hf:Nat.beq f 100 with
  |true=>
   obtain rfl:=cX hf;exact h
  |false=>
   have hx:F0 f=none:=by unfold F0;rw[hf];rfl
   rw[hx] at h;dsimp only at h;split at h
   case h_2=>cases h
   rename_i pc hp;obtain⟨h1,h2⟩:=aeX f pc hp;rw[h2];dsimp only;rw[h1];dsimp only;split at h
   case h_2=>cases h
   rename_i d' he;rw[PC.ev_mono ih (aU _) he];exact h
theorem ak.of_ev (n:Nat){f:Nat}{ds:List D}{d:D}(h:cH K5 F0 n f ds=some d):ak T f ds d:=.of_at afe n (Uv n f ds d h)
theorem aoW:ak T 12 [] (.bool true):=ak.of_ev 60 (by kernel_rfl)
end Rm
namespace Rm
open Go Go.Proofs Cx
theorem anL (f:File):∃b:Bool,ak T 15 [cB f] (.bool b):=by
 have h:∃d,ak T 15 [cB f] d∧abE d:=by
  refine ak.ex_of_tree rfl acy aqG ?_;simp[Re];split
  ·exact⟨_,rfl⟩
  ·exact⟨_,rfl⟩
 obtain⟨d,hd,b,rfl⟩:=h;exact⟨b,hd⟩
theorem acb (ρ:Env)(A B:dU)(hA:A.2.length≤20)(hB:B.2.length≤20)(Lo:∀x,x∈A.2→x∈B.2)(uG:ρ.r 12=.bool false)(ye:ρ.r 18=.int 0)(qO:ρ.r 16=gQ [A])(qP:ρ.r 17=gQ [B]){Q:Out→Prop}
 (hQ:∀ρ':Env,(∀t,t∉[12,18,19,20,93,94,95,96,97,98,99,102,103,104,105,106,107,108,129,130]→ρ'.r t=ρ.r t)→(∀j,ρ'.o j=ρ.o j)→Q (.next ρ')):aH T (Xf rT) ρ Q:=by
 refine aH.forRounds A.2.length (fun k=>[.bool false,.int k]) (fun _=>[]) ?_ (fun k hk=>?_) ?_
 ·simp[uG,ye]
 ·have hw:=bI hk (by omega);have hx:A.2[k]∈B.2:=Lo _ (cM hk);simp[aai,Iy,qO,qP,gQ,my,hk,hw];refine aH.forRounds B.2.length (fun j=>[.bool (decide (A.2[k]∈B.2.take j)),.int j]) (fun _=>[]) ?_ (fun j hj=>?_) ?_
  ·simp
  ·have eW:=bI hj (by omega);have e:decide (A.2[k]∈B.2.take (j+1))=(decide (A.2[k]∈B.2.take j)||decide (A.2[k]=B.2[j])):=by
        rw[←Bool.decide_or,decide_eq_decide,gx hj];simp only[dg,tU]
   rw[e];simp[aah,Ix,qO,qP,gQ,my,hk,hj,eW];by_cases hm:A.2[k]∈B.2.take j<;>by_cases he:A.2[k]=B.2[j]<;>simp[hm,he]
  ·rw[JK];simp[aah,Ix,qO,qP,gQ,my,hx]
 ·simp[aai,Iy,qO,qP,gQ,my];exact hQ _ (fun t ht=>by simp at ht;simp[ht]) (fun j=>rfl)
theorem abx (r:Realm)(hr:r.OK)(forum:Int)(f:File)(Lm:f.OK)(day:Int)(drop:Nat)(hdr:drop<18446744073709551616)(failed:List Int)(uP:failed.length≤maxLen):
 ak T 4 [bA r,.int forum,cB f,.int day,.v (.int .u64 drop),ints failed] (.bool true):=by
 refine .of_tree rfl (lA 0 (by kernel_rfl)) aqm ?_;simp[QW];refine⟨_,aoW,_,anN r f hr,?_⟩;cases e1:nJ r f
 ·simp
 have hs:Small r:=K8 hr (by simp only[nJ,aq] at e1;exact e1.1.1);simp;refine⟨_,PZ r hs,?_⟩;by_cases e2:ix r=0
 case neg=>simp[e2]
 simp[e2];obtain⟨b,hb⟩:=anL f;refine⟨_,hb,?_⟩;cases b
 ·simp
 obtain⟨d,hd,e,rfl,he⟩:=anj r hs f Lm;simp;refine⟨_,hd,?_⟩;by_cases e0:e=0
 case neg=>simp[e0]
 by_cases hlen:25<failed.length
 ·simp[e0,hlen];intro h;omega
 have hg:=afj e1 e2;have hP:=he.1 e0;have G:=agz hr hg;have hO:=ana G e2 hP;have BH:=afk hg;have Lr:=agG e2;have Mz:0≤f.bill.sum∧f.bill.sum≤1099511627776:=by have:=hO.sums.bill;omega
 simp[e0,hlen];intro _;refine aH.forRounds f.facts.length (fun k=>[.int k]) (fun k=>[rR f.bill (signs f.signs) (alters f.alters) (acts f.acts) (ki (pG drop f.facts k)),facts (pG drop f.facts k)]) ?_ (fun k hk=>?_) ?_
 ·simp[facts,pG];rfl
 ·have hw:=bI hk (by omega);have hlen:=(M1 drop f.facts k (by omega)).length_le;rw[gd] at hlen;rw[WK];generalize pG drop f.facts k=A at*;have VH:yP drop k=true↔cj .and .u64 (cj .shr .u64 drop ((k:Int).tmod 64)) 1=0:=by simp[yP]
  have ail:0≤(k:Int).tmod 64:=by
   rw[SO (by omega)];omega
  simp[aag,Iw,hk,hw];refine⟨ail,?_⟩;by_cases h:yP drop k=true
  ·rw[if_pos (VH.1 h)];simp only[h,if_true];exact⟨by omega,by cases A<;>rfl,by simp[facts]⟩
  ·rw[if_neg (fun e=>h (VH.2 e))];simp[h]
 ·have bT:=M1 drop f.facts f.facts.length (aU _);rw[JK] at bT;have hm:=aj3 hP bT;simp[aag,Iw];generalize pG drop f.facts f.facts.length=L at*;have hLl:=bT.length_le;have GA:FewS (uC f L):=⟨hO.few.signs,hO.few.alters,hO.few.acts,gy hLl hO.few.facts⟩
  have k1:=UB r hO.right hO.rightD forum [uC f L] (by simpa using GA) (by simp) day;have k2:=UB r hO.right hO.rightD forum [f] (by simpa using hO.few) (by simp) day;simp only[eB,Ad] at k1 k2;have Lo:∀x,x∈(gD r forum (uC f L) day).2→x∈(gD r forum f day).2:=fun x hx=>DQ.2 (UW forum hm day (DQ.1 hx));have hle:=akc Lr forum hm Mz day failed;have hA:=(Gz Lr forum (f:=uC f L) Mz day).2.2.len;have hB:=(Gz Lr forum Mz day).2.2.len;generalize gD r forum (uC f L) day=A at*;generalize gD r forum f day=B at*;refine⟨_,k1,_,k2,?_⟩;simp[gQ];refine acb _ A B hA hB Lo (by simp) (by simp) (by simp[gQ]) (by simp[gQ]) fun ρ' h1 h2=>?_;have l1:=UA [A] failed (by simp[maxLen]) (fun h hh=>by simp at hh;subst hh;rw[CA];omega) uP;have l2:=UA [B] failed (by simp[maxLen]) (fun h hh=>by simp at hh;subst hh;rw[CA];omega) uP;simp[h1,h2];refine⟨_,l2,_,l1,?_⟩;simp[hle]
end Rm
