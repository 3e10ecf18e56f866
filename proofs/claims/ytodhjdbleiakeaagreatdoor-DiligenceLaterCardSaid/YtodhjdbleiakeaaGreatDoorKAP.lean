/-
  Shared texts of this claim.
-/
import Derived.Test.YtodhjdbleiakeaaGreatDoorKAO
import Derived.Lib.Mul64
set_option linter.unusedSimpArgs false
set_option linter.unusedVariables false
namespace Rm
open Go Go.Proofs Cx
structure Small (r:Realm):Prop where
 cur:r.currencies.length≤1000
 cities:r.cities.length≤1000
 groups:r.groups.length≤1000
 firms:r.firms.length≤1000
 orders:r.orders.length≤1000
 us:r.usances.length≤1000
 rates:r.rates.length≤1000
 halts:r.halts.length≤1000
 city:∀c,c∈r.cities→c.rest.length≤1000∧c.feasts.length≤1000∧c.shut.length≤1000∧∀y,y∈c.feasts→aX y
 order:∀o,o∈r.orders→o.choices.length≤1000∧o.rules.length≤1000
 rate:∀x,x∈r.rates→aX x.num∧aX x.den
def ky (r:Realm)(k j:Nat):Bool:=(r.usances.getD j default).fr !=(r.usances.getD k default).fr||(r.usances.getD j default).to !=(r.usances.getD k default).to
def vw (r:Realm)(k:Nat):Int:=
 if(aw (r.usances.getD k default).fr r.cities.length&&aw (r.usances.getD k default).to r.cities.length&&wi (r.usances.getD k default).days 1 20000)=false then 1 else if dQ k (ky r k) then 0 else 5
def sR (r:Realm):Int:=if 100<r.usances.length then 6 else eQ r.usances.length (vw r)
theorem axt (r:Realm)(h:Small r):ak T aaX [aZ r] (.int (sR r)):=by
 refine .of_tree rfl ahZ az2 ?_;have hu:=h.us;simp[Ue,sR];by_cases h0:100<r.usances.length
 ·have ej:(100:Int)<r.usances.length:=by omega
  have tG:¬r.usances.length≤100:=by omega
  simp[h0,ej,tG]
 have ej:¬(100:Int)<r.usances.length:=by omega
 simp[h0,ej];refine m9 r.usances.length (vw r) (fun k=>[.int 0,.int k]) (fun _=>[]) ?_ (fun k hk ho=>?_) (fun k hk ho hb=>?_) (fun hj=>?_)
 ·simp
 ·have hw:=bl hk (by omega);have ha:aw r.usances[k].fr r.cities.length=true∧aw r.usances[k].to r.cities.length=true∧wi r.usances[k].days 1 20000=true∧dQ k (ky r k)=true:=by
   unfold vw at ho;simp only[List.getD_eq_getElem?_getD,List.getElem?_eq_getElem hk,Option.getD_some] at ho;cases e1:aw r.usances[k].fr r.cities.length<;>cases e2:aw r.usances[k].to r.cities.length<;>cases e3:wi r.usances[k].days 1 20000<;>cases e4:dQ k (ky r k)<;>simp[e1,e2,e3,e4] at ho ⊢
  obtain⟨a1,a2,a3,a4⟩:=ha;simp[wi] at a3;have a5:¬r.usances[k].days<1:=by omega
  have a6:¬20000<r.usances[k].days:=by omega
  simp[RM,C2,hk];refine⟨_,fa _ _,?_⟩;simp[a1];refine⟨_,fa _ _,?_⟩;simp[a2,a5,a6];refine⟨by omega,fo k (ky r k) (fun j=>[.int 0,.int j]) (fun _=>[]) ?_ (fun j hj dT=>?_) (fun j hj dT dh=>?_) (fun oX=>?_)⟩
  ·simp
  ·have qy:=bl hj (by omega);have bB:j<r.usances.length:=by omega
   have hm:j<min k r.usances.length:=by omega
   simp[ky,bB,hk] at dT;simp[KR,xX,hj,bB,hk,qy,hm];intro e e';rcases dT with h|h
   ·exact absurd e h
   ·exact absurd e' h
  ·rw[a4] at dh;cases dh
  ·simp[KR,xX,hw];omega
 ·simp[RM,C2,hk,hb];refine⟨_,fa _ _,?_⟩;unfold vw at ho ⊢;simp only[List.getD_eq_getElem?_getD,List.getElem?_eq_getElem hk,Option.getD_some] at ho ⊢;cases e1:aw r.usances[k].fr r.cities.length
  ·simp
  simp;refine⟨_,fa _ _,?_⟩;cases e2:aw r.usances[k].to r.cities.length
  ·simp
  cases e3:wi r.usances[k].days 1 20000
  ·simp[wi] at e3;by_cases g:r.usances[k].days<1
   ·simp[g]
   ·simp[g,e3 (by omega)]
  have MT:=e3;simp[wi] at MT;have a5:¬r.usances[k].days<1:=by omega
  have a6:¬20000<r.usances[k].days:=by omega
  simp[e1,e2,e3] at ho;simp[a5,a6];refine⟨by omega,fo k (ky r k) (fun j=>[.int 0,.int j]) (fun _=>[]) ?_ (fun j hj dT=>?_) (fun j hj dT dh=>?_) (fun oX=>?_)⟩
  ·simp
  ·have qy:=bl hj (by omega);have bB:j<r.usances.length:=by omega
   have hm:j<min k r.usances.length:=by omega
   simp[ky,bB,hk] at dT;simp[KR,xX,hj,bB,hk,qy,hm];intro e e';rcases dT with h|h
   ·exact absurd e h
   ·exact absurd e' h
  ·have bB:j<r.usances.length:=by omega
   have hm:j<min k r.usances.length:=by omega
   simp[ky,bB,hk] at dT;simp[KR,xX,hj,bB,hk,ho,hm]
   first|exact dT|simp[dT]
  ·rw[oX] at ho;cases ho
 ·simp[RM,C2,hj]
theorem awV (r:Realm)(h:Small r):ak T aaF [aZ r] (.int (sR r)):=by
 refine .of_tree rfl ahE azH ?_;have hu:=h.us;have hc:=h.cities;simp[TQ,sR];by_cases h0:100<r.usances.length
 ·have ej:(100:Int)<r.usances.length:=by omega
  have tG:¬r.usances.length≤100:=by omega
  simp[h0,ej,tG]
 have ej:¬(100:Int)<r.usances.length:=by omega
 simp[h0,ej];refine m9 r.usances.length (vw r) (fun k=>[.int 0,.int k]) (fun _=>[]) ?_ (fun k hk ho=>?_) (fun k hk ho hb=>?_) (fun hj=>?_)
 ·simp
 ·have hw:=bl hk (by omega);have ha:aw r.usances[k].fr r.cities.length=true∧aw r.usances[k].to r.cities.length=true∧wi r.usances[k].days 1 20000=true∧dQ k (ky r k)=true:=by
   unfold vw at ho;simp only[List.getD_eq_getElem?_getD,List.getElem?_eq_getElem hk,Option.getD_some] at ho;cases e1:aw r.usances[k].fr r.cities.length<;>cases e2:aw r.usances[k].to r.cities.length<;>cases e3:wi r.usances[k].days 1 20000<;>cases e4:dQ k (ky r k)<;>simp[e1,e2,e3,e4] at ho ⊢
  obtain⟨a1,a2,a3,a4⟩:=ha;rw[lV] at a1 a2;simp[Ry,CO,hk,pU _ (show r.cities.length≤4294967296 by omega)];refine⟨_,cB _ _ _,?_⟩;simp[a1,pU _ (show r.cities.length≤4294967296 by omega)];refine⟨_,cB _ _ _,?_⟩;simp[a2];refine⟨_,cB _ _ _,?_⟩;simp[a3];refine fo k (ky r k) (fun j=>[.int 0,.int j]) (fun _=>[]) ?_ (fun j hj dT=>?_) (fun j hj dT dh=>?_) (fun oX=>?_)
  ·simp
  ·have qy:=bl hj (by omega);have bB:j<r.usances.length:=by omega
   simp[ky,bB,hk] at dT;simp[KL,xT,hj,bB,hk,qy];intro e e';rcases dT with h|h
   ·exact absurd e h
   ·exact absurd e' h
  ·rw[a4] at dh;cases dh
  ·simp[KL,xT,hw]
 ·simp[Ry,CO,hk,hb,pU _ (show r.cities.length≤4294967296 by omega)];refine⟨_,cB _ _ _,?_⟩;unfold vw at ho ⊢;simp only[List.getD_eq_getElem?_getD,List.getElem?_eq_getElem hk,Option.getD_some,lV] at ho ⊢;cases e1:wi r.usances[k].fr 0 ((r.cities.length:Int)-1)
  ·simp
  simp[pU _ (show r.cities.length≤4294967296 by omega)];refine⟨_,cB _ _ _,?_⟩;cases e2:wi r.usances[k].to 0 ((r.cities.length:Int)-1)
  ·simp
  simp;refine⟨_,cB _ _ _,?_⟩;cases e3:wi r.usances[k].days 1 20000
  ·simp
  simp[e1,e2,e3] at ho;simp;refine fo k (ky r k) (fun j=>[.int 0,.int j]) (fun _=>[]) ?_ (fun j hj dT=>?_) (fun j hj dT dh=>?_) (fun oX=>?_)
  ·simp
  ·have qy:=bl hj (by omega);have bB:j<r.usances.length:=by omega
   simp[ky,bB,hk] at dT;simp[KL,xT,hj,bB,hk,qy];intro e e';rcases dT with h|h
   ·exact absurd e h
   ·exact absurd e' h
  ·have bB:j<r.usances.length:=by omega
   simp[ky,bB,hk] at dT;simp[KL,xT,hj,bB,hk,ho]
   first|exact dT|simp[dT]
  ·rw[oX] at ho;cases ho
 ·simp[Ry,CO,hj]
def ve (r:Realm)(k:Nat):Bool:=aw (r.rates.getD k default).fr r.currencies.length&&aw (r.rates.getD k default).to r.currencies.length&&((r.rates.getD k default).fr !=(r.rates.getD k default).to)&&
 wi (r.rates.getD k default).num 1 1073741824&&wi (r.rates.getD k default).den 1 1073741824&&wi (r.rates.getD k default).since 0 100000
def rA (r:Realm)(k:Nat):Bool:=aw (r.halts.getD k default).order r.orders.length&&wi (r.halts.getD k default).fr 0 (r.halts.getD k default).to&&decide ((r.halts.getD k default).to≤100000)
def m5 (r:Realm):Int:=if 100<r.rates.length then 6 else if dQ r.rates.length (ve r)=false then 1 else if 20<r.halts.length then 6 else if dQ r.halts.length (rA r) then 0 else 1
theorem GY {n:Int}(h:aX n)(m:Int)(hm:0≤m∧m≤4294967296):aw (IntKind.i64.wrap (n-1)) m=wi n 1 m:=by
 unfold aX at h;by_cases e:n=-9223372036854775808
 ·subst e;have:IntKind.i64.wrap (-9223372036854775808-1)=9223372036854775807:=by decide
  rw[this,Bool.eq_iff_iff];simp[aw,wi];omega
 ·rw[bD (by omega),Bool.eq_iff_iff];simp[aw,wi];omega
theorem YB (n:Int):aw n 100001=wi n 0 100000:=by rw[Bool.eq_iff_iff];simp[aw,wi];omega
theorem axs (r:Realm)(h:Small r):ak T aaV [aZ r] (.int (m5 r)):=by
 refine .of_tree rfl ahX az0 ?_;have hu:=h.rates;have hh:=h.halts;simp[Uc,m5];by_cases h0:100<r.rates.length
 ·have ej:(100:Int)<r.rates.length:=by omega
  have tG:¬r.rates.length≤100:=by omega
  simp[h0,ej,tG]
 have ej:¬(100:Int)<r.rates.length:=by omega
 simp[h0,ej];have key:∀k (hk:k<r.rates.length),∀{ρ:Env} {Q:Out→Prop},True:=fun _ _ _ _=>trivial;refine fo r.rates.length (ve r) (fun k=>[.int 0,.int k]) (fun _=>[]) ?_ (fun k hk ho=>?_) (fun k hk ho hb=>?_) (fun hj=>?_)
 ·simp
 ·have hw:=bl hk (by omega);have hI:=h.rate _ (List.getElem_mem hk);simp[ve,hk] at ho;obtain⟨⟨⟨⟨⟨a1,a2⟩,a3⟩,a4⟩,a5⟩,a6⟩:=ho;simp[RK,C0,hk];refine⟨_,fa _ _,?_⟩;simp[a1];refine⟨_,fa _ _,?_⟩;simp[a2,a3];refine⟨_,fa _ _,?_⟩;simp[GY hI.1,a4];refine⟨_,fa _ _,?_⟩;simp[GY hI.2,a5];refine⟨_,fa _ _,?_⟩;simp[YB,a6,hw]
 ·have hI:=h.rate _ (List.getElem_mem hk);rw[hb];simp[ve,hk] at ho;simp[RK,C0,hk];refine⟨_,fa _ _,?_⟩;cases e1:aw r.rates[k].fr r.currencies.length
  ·simp
  simp;refine⟨_,fa _ _,?_⟩;cases e2:aw r.rates[k].to r.currencies.length
  ·simp
  by_cases e3:r.rates[k].fr=r.rates[k].to
  ·simp[e3]
  simp[e3];refine⟨_,fa _ _,?_⟩;rw[GY hI.1 _ (by omega)];cases e4:wi r.rates[k].num 1 1073741824
  ·simp
  simp;refine⟨_,fa _ _,?_⟩;rw[GY hI.2 _ (by omega)];cases e5:wi r.rates[k].den 1 1073741824
  ·simp
  simp;refine⟨_,fa _ _,?_⟩;rw[YB];simp[ho e1 e2 e3 e4 e5]
 ·rw[hj];simp[RK,C0];by_cases h1:20<r.halts.length
  ·have cg:(20:Int)<r.halts.length:=by omega
   have Nl:¬r.halts.length≤20:=by omega
   simp[h1,cg,Nl]
  have cg:¬(20:Int)<r.halts.length:=by omega
  simp[h1,cg];refine fo r.halts.length (rA r) (fun k=>[.int 0,.int k]) (fun _=>[]) ?_ (fun k hk ho=>?_) (fun k hk ho hb=>?_) (fun hj=>?_)
  ·simp
  ·have hw:=bl hk (by omega);simp[rA,wi,hk] at ho;obtain⟨⟨a1,a2⟩,a3⟩:=ho;have b1:¬r.halts[k].fr<0:=by omega
   have b2:¬r.halts[k].to<r.halts[k].fr:=by omega
   have b3:¬100000<r.halts[k].to:=by omega
   simp[RL,C1,hk];refine⟨_,fa _ _,?_⟩;simp[a1,b1,b2,b3,hw]
  ·rw[hb];simp[rA,wi,hk] at ho;simp[RL,C1,hk];refine⟨_,fa _ _,?_⟩;cases e1:aw r.halts[k].order r.orders.length
   ·simp
   have:=ho e1;by_cases b1:r.halts[k].fr<0
   ·simp[b1]
   by_cases b2:r.halts[k].to<r.halts[k].fr
   ·simp[b1,b2]
   have b3:100000<r.halts[k].to:=this (by omega) (by omega);simp[b1,b2,b3]
  ·rw[hj];simp[RL,C1]
theorem awU (r:Realm)(h:Small r):ak T aaE [aZ r] (.int (m5 r)):=by
 refine .of_tree rfl ahD azG ?_;have hu:=h.rates;have hh:=h.halts;have hc:=pU r.currencies.length (by have:=h.cur;omega);have GL:=pU r.orders.length (by have:=h.orders;omega);simp[TP,m5];by_cases h0:100<r.rates.length
 ·have ej:(100:Int)<r.rates.length:=by omega
  have tG:¬r.rates.length≤100:=by omega
  simp[h0,ej,tG]
 have ej:¬(100:Int)<r.rates.length:=by omega
 simp[h0,ej];refine fo r.rates.length (ve r) (fun k=>[.int 0,.int k]) (fun _=>[]) ?_ (fun k hk ho=>?_) (fun k hk ho hb=>?_) (fun hj=>?_)
 ·simp
 ·have hw:=bl hk (by omega);simp[ve,hk,lV] at ho;obtain⟨⟨⟨⟨⟨a1,a2⟩,a3⟩,a4⟩,a5⟩,a6⟩:=ho;simp[Rw,CM,hk,hc];refine⟨_,cB _ _ _,?_⟩;simp[a1,hc];refine⟨_,cB _ _ _,?_⟩;simp[a2,a3];refine⟨_,cB _ _ _,?_⟩;simp[a4];refine⟨_,cB _ _ _,?_⟩;simp[a5];refine⟨_,cB _ _ _,?_⟩;simp[a6,hw]
 ·rw[hb];simp[ve,hk,lV] at ho;simp[Rw,CM,hk,hc];refine⟨_,cB _ _ _,?_⟩;cases e1:wi r.rates[k].fr 0 ((r.currencies.length:Int)-1)
  ·simp
  simp[hc];refine⟨_,cB _ _ _,?_⟩;cases e2:wi r.rates[k].to 0 ((r.currencies.length:Int)-1)
  ·simp
  by_cases e3:r.rates[k].fr=r.rates[k].to
  ·simp[e3]
  simp[e3];refine⟨_,cB _ _ _,?_⟩;cases e4:wi r.rates[k].num 1 1073741824
  ·simp
  simp;refine⟨_,cB _ _ _,?_⟩;cases e5:wi r.rates[k].den 1 1073741824
  ·simp
  simp;refine⟨_,cB _ _ _,?_⟩;simp[ho e1 e2 e3 e4 e5]
 ·rw[hj];simp[Rw,CM];by_cases h1:20<r.halts.length
  ·have cg:(20:Int)<r.halts.length:=by omega
   have Nl:¬r.halts.length≤20:=by omega
   simp[h1,cg,Nl]
  have cg:¬(20:Int)<r.halts.length:=by omega
  simp[h1,cg];refine fo r.halts.length (rA r) (fun k=>[.int 0,.int k]) (fun _=>[]) ?_ (fun k hk ho=>?_) (fun k hk ho hb=>?_) (fun hj=>?_)
  ·simp
  ·have hw:=bl hk (by omega);simp[rA,hk,lV] at ho;obtain⟨⟨a1,a2⟩,a3⟩:=ho;have b3:¬100000<r.halts[k].to:=by omega
   simp[Rx,CN,hk,GL];refine⟨_,cB _ _ _,?_⟩;simp[a1];refine⟨_,cB _ _ _,?_⟩;simp[a2,b3,hw]
  ·rw[hb];simp[rA,hk,lV] at ho;simp[Rx,CN,hk,GL];refine⟨_,cB _ _ _,?_⟩;cases e1:wi r.halts[k].order 0 ((r.orders.length:Int)-1)
   ·simp
   simp;refine⟨_,cB _ _ _,?_⟩;cases e2:wi r.halts[k].fr 0 r.halts[k].to
   ·simp
   simp[ho e1 e2]
  ·rw[hj];simp[Rx,CN]
end Rm
namespace Rm
open Go Go.Proofs Cx
def ew:List Int→Int
 |[]=>0
 |x::l=>if x=0 then ew l else x
theorem Si:∀{l:List Int},ew l=0↔∀x,x∈l→x=0
 |[]=>by simp[ew]
 |x::l=>by
  simp only[ew,List.mem_cons,forall_eq_or_imp];by_cases h:x=0
  ·simp[h,Si (l:=l)]
  ·simp[h]
def nE (r:Realm)(i:Nat):Bool:=aw (r.firms.getD i default).city r.cities.length&&aw (r.firms.getD i default).group r.groups.length
def nr (r:Realm)(i:Nat):Bool:=mu r (r.cities.getD i default)
def l8 (r:Realm)(i:Nat):Bool:=nZ (r.orders.getD i default)
def tF (r:Realm)(i:Nat):Bool:=aw (r.groups.getD i default).grade 10
def rv (r:Realm):Int:=if 20<r.groups.length then 6 else if dQ r.groups.length (tF r) then 0 else 1
def gJ (r:Realm):Int:=ew [ei r.currencies 8 (fun _=>true),ei (eH r) 40 (nr r),rv r,ei (eI r) 200 (nE r),ei (dZ r) 20 (l8 r),sR r,m5 r]
theorem alz (i:Int):ak T PK [.int i] (.bool true):=by
 refine .of_tree rfl ahL azN ?_;simp[TY]
theorem alA (r:Realm)(h:Small r)(i:Nat)(hi:i<r.cities.length):ak T PL [.int i,.ref (aZ r)] (.bool (nr r i)):=by
 refine .of_tree rfl ahM azO ?_;obtain⟨h1,h2,h3,h4⟩:=h.city _ (List.getElem_mem hi);simp[TZ,hi,nr];exact axn r r.cities[i] (by omega) (by omega) (by omega)
theorem alB (r:Realm)(i:Nat)(hi:i<r.firms.length):ak T PM [.int i,.ref (aZ r)] (.bool (nE r i)):=by
 refine .of_tree rfl ahN azP ?_;simp[T2,hi,nE];refine⟨_,fa _ _,?_⟩;simp[hi];cases e1:aw r.firms[i].city r.cities.length<;>simp;exact fa _ _
theorem alC (r:Realm)(h:Small r)(i:Nat)(hi:i<r.orders.length):ak T PN [.int i,.ref (aZ r)] (.bool (l8 r i)):=by
 refine .of_tree rfl ahO azQ ?_;obtain⟨h1,h2⟩:=h.order _ (List.getElem_mem hi);simp[T3,hi,l8];exact axr r.orders[i] (by omega) (by omega)
theorem KY (r:Realm)(h:Small r):ak T aaM [aZ r] (.int (gJ r)):=by
 refine .of_tree rfl ahK azR ?_;have g1:=h.cur;have g2:=h.cities;have g3:=h.firms;have g4:=h.orders;have g5:=h.groups;simp[TX];refine⟨_,axq r (by omega) (by omega) (by omega),?_⟩;simp;refine⟨_,KZ r.currencies 8 PK [] (fun _=>true) (fun i _=>alz _) (by omega),?_⟩;unfold gJ;generalize e1:ei r.currencies 8 (fun _=>true)=x1;by_cases z1:x1=0
 case neg=>simp[z1,ew]
 simp[z1,ew];refine⟨_,KZ (eH r) 40 PL [.ref (aZ r)] (nr r) (fun i hi=>alA r h i (by simpa [eH] using hi)) (by simp[eH];omega),?_⟩;generalize e2:ei (eH r) 40 (nr r)=x2;by_cases z2:x2=0
 case neg=>simp[z2]
 simp[z2];by_cases z3:20<r.groups.length
 ·have Ve:(20:Int)<r.groups.length:=by omega
  simp[Ve,rv,z3]
 have Ve:¬(20:Int)<r.groups.length:=by omega
 simp[Ve,rv,z3];refine fo r.groups.length (tF r) (fun k=>[.int 0,.int k]) (fun _=>[]) ?_ (fun k hk ho=>?_) (fun k hk ho hb=>?_) (fun hj=>?_)
 ·simp
 ·have hw:=bl hk (by omega);simp[tF,hk] at ho;simp[RF,CV,hk];refine⟨_,fa _ _,?_⟩;simp[ho,hw]
 ·simp[tF,hk] at ho;rw[hb];simp[RF,CV,hk];refine⟨_,fa _ _,?_⟩;simp[ho]
 ·rw[hj];simp[RF,CV];refine⟨_,KZ (eI r) 200 PM [.ref (aZ r)] (nE r) (fun i hi=>alB r i (by simpa [eI] using hi)) (by simp[eI];omega),?_⟩;generalize e4:ei (eI r) 200 (nE r)=x4;by_cases z4:x4=0
  case neg=>simp[z4]
  simp[z4];refine⟨_,KZ (dZ r) 20 PN [.ref (aZ r)] (l8 r) (fun i hi=>alC r h i (by simpa [dZ] using hi)) (by simp[dZ];omega),?_⟩;generalize e5:ei (dZ r) 20 (l8 r)=x5;by_cases z5:x5=0
  case neg=>simp[z5]
  simp[z5];refine⟨_,axt r h,?_⟩;generalize e6:sR r=x6;by_cases z6:x6=0
  case neg=>simp[z6]
  simp[z6];have e7:(if m5 r=0 then 0 else m5 r)=m5 r:=by split<;>simp_all
  rw[e7];exact axs r h
theorem anw (l:List ByteArray)(k:Nat):jb l (fun _=>true) k=fO l k:=by
 unfold jb;by_cases h:fO l k=0<;>simp[h]
theorem Az {l:List ByteArray}{g:Nat→Bool}{k:Nat}(h:jb l g k=0):fO l k=0∧g k=true:=by
 unfold jb at h;by_cases h1:fO l k=0
 ·simp[h1] at h;exact⟨h1,h⟩
 ·simp[h1] at h
theorem Nd {l:List ByteArray}{g:Nat→Bool}{k:Nat}(h:jb l g k≠0):(fO l k≠0∧jb l g k=fO l k)∨(fO l k=0∧g k=false∧jb l g k=1):=by
 unfold jb at h ⊢;by_cases h1:fO l k=0
 ·simp[h1] at h ⊢;simp[h]
 ·simp[h1]
theorem awR (r:Realm)(h:Small r):ak T aaB [aZ r] (.int (ew [ei r.currencies 8 (fun _=>true),ei (eH r) 40 (nr r)])):=by
 refine .of_tree rfl ahz azC ?_;have g1:=h.cur;have g2:=h.cities;have g4:=h.orders;simp[TL];unfold ei;by_cases z1:(8:Int)<r.currencies.length
 ·simp[z1,ew]
 simp[z1,ew];refine m9 r.currencies.length (jb r.currencies (fun _=>true)) (fun k=>[.int 0,.int k]) (fun _=>[]) ?_ (fun k hk ho=>?_) (fun k hk ho hb=>?_) (fun hj=>?_)
 ·simp
 ·have hw:=bl hk (by omega);simp[Rr,CH,hk];refine⟨_,Cj _ k hk (by omega),?_⟩;simp[(Az ho).1,hw]
 ·rw[hb];simp[Rr,CH,hk,ho];rw[anw];exact Cj _ k hk (by omega)
 ·rw[hj];simp[Rr,CH];have hlen:(eH r).length=r.cities.length:=by simp[eH]
  rw[hlen];by_cases z2:(40:Int)<r.cities.length
  ·simp[z2]
  simp[z2];have key:∀k (hk:k<r.cities.length),((eH r).take k).length=k∧D.list (List.take k (List.map str (eH r))++[str r.cities[k].name])=strs ((eH r).take (k+1))∧
     ak T BS [strs ((eH r).take (k+1)),.int k] (.int (fO (eH r) k))∧ak T PH [aZ r,fe r.cities[k]] (.bool (nr r k)):=by
   intro k hk;have aY:k<(eH r).length:=by omega
   have hg:(eH r)[k]=r.cities[k].name:=by simp[eH]
   have hs:(eH r).take (k+1)=(eH r).take k++[(eH r)[k]]:=List.take_succ_eq_append_getElem aY;have hn:=Cj ((eH r).take (k+1)) k (by rw[List.length_take];omega) (by rw[List.length_take];omega);rw[PR _ _ _ (by omega)] at hn;obtain⟨c1,c2,c3,c4⟩:=h.city _ (List.getElem_mem hk);have hc:=awP r r.cities[k] (by omega) (by omega) (by omega) (by omega) (by omega) c4;rw[alJ] at hc;exact⟨by rw[List.length_take];omega,by rw[hs,hg];simp[strs],hn,by simpa [nr,hk] using hc⟩
  refine m9 r.cities.length (jb (eH r) (nr r)) (fun k=>[.int 0,.none,.int k]) (fun k=>[strs ((eH r).take k)]) ?_ (fun k hk ho=>?_) (fun k hk ho hb=>?_) (fun hj=>?_)
  ·simp[strs]
  ·have hw:=bl hk (by omega);obtain⟨hl,dU,hn,hc⟩:=key k hk;obtain⟨o1,o2⟩:=Az ho;rw[o1] at hn;rw[o2] at hc;simp[Rs,CI,hk,hl,dU,ayd];refine⟨by omega,_,hn,?_⟩;simp[hk];refine⟨_,hc,?_⟩;simp[hw]
  ·rw[hb];obtain⟨hl,dU,hn,hc⟩:=key k hk;simp[Rs,CI,hk,hl,dU,ho];refine⟨by omega,_,hn,?_⟩;rcases Nd ho with⟨o1,o2⟩|⟨o1,o2,o3⟩
   ·simp[o1,o2]
   ·rw[o2] at hc;simp[o1,o3,hk];refine⟨_,hc,?_⟩;simp
  ·rw[hj];simp[Rs,CI]
theorem awS (r:Realm)(h:Small r):ak T aaC [aZ r] (.int (ew [rv r,ei (eI r) 200 (nE r)])):=by
 refine .of_tree rfl ahA azD ?_;have g1:=h.groups;have g2:=h.firms;have g3:=h.cities;have w3:=pU r.cities.length (by omega);have w1:=pU r.groups.length (by omega);simp[TM];by_cases z1:20<r.groups.length
 ·have Vd:(20:Int)<r.groups.length:=by omega
  simp[Vd,rv,z1,ew]
 have Vd:¬(20:Int)<r.groups.length:=by omega
 simp[Vd,rv,z1,ew];refine fo r.groups.length (tF r) (fun k=>[.int 0,.int k]) (fun _=>[]) ?_ (fun k hk ho=>?_) (fun k hk ho hb=>?_) (fun hj=>?_)
 ·simp
 ·have hw:=bl hk (by omega);simp[tF,hk] at ho;have e:wi r.groups[k].grade 0 9=aw r.groups[k].grade 10:=by rw[Bool.eq_iff_iff];simp[wi,aw];omega
  simp[Rt,CJ,hk];refine⟨_,cB _ _ _,?_⟩;simp[e,ho,hw]
 ·simp[tF,hk] at ho;have e:wi r.groups[k].grade 0 9=aw r.groups[k].grade 10:=by rw[Bool.eq_iff_iff];simp[wi,aw];omega
  rw[hb];simp[Rt,CJ,hk];refine⟨_,cB _ _ _,?_⟩;simp[e,ho]
 ·rw[hj];simp[Rt,CJ];unfold ei;have hlen:(eI r).length=r.firms.length:=by simp[eI]
  rw[hlen];by_cases z2:(200:Int)<r.firms.length
  ·simp[z2]
  simp[z2];have key:∀k (hk:k<r.firms.length),((eI r).take k).length=k∧D.list (List.take k (List.map str (eI r))++[str r.firms[k].name])=strs ((eI r).take (k+1))∧
     ak T BS [strs ((eI r).take (k+1)),.int k] (.int (fO (eI r) k))∧nE r k=(wi r.firms[k].city 0 ((r.cities.length:Int)-1)&&wi r.firms[k].group 0 ((r.groups.length:Int)-1)):=by
   intro k hk;have aY:k<(eI r).length:=by omega
   have hg:(eI r)[k]=r.firms[k].name:=by simp[eI]
   have hs:(eI r).take (k+1)=(eI r).take k++[(eI r)[k]]:=List.take_succ_eq_append_getElem aY;have hn:=Cj ((eI r).take (k+1)) k (by rw[List.length_take];omega) (by rw[List.length_take];omega);rw[PR _ _ _ (by omega)] at hn;exact⟨by rw[List.length_take];omega,by rw[hs,hg];simp[strs],hn,by simp[nE,hk,lV]⟩
  refine m9 r.firms.length (jb (eI r) (nE r)) (fun k=>[.int 0,.none,.int k]) (fun k=>[strs ((eI r).take k)]) ?_ (fun k hk ho=>?_) (fun k hk ho hb=>?_) (fun hj=>?_)
  ·simp[strs]
  ·have hw:=bl hk (by omega);obtain⟨hl,dU,hn,hc⟩:=key k hk;obtain⟨o1,o2⟩:=Az ho;rw[o1] at hn;rw[o2] at hc;have Xt:=Bool.and_eq_true_iff.1 hc.symm;simp[Ru,CK,hk,hl,dU];refine⟨by omega,_,hn,?_⟩;simp[hk,w3];refine⟨_,cB _ _ _,?_⟩;simp[Xt.1,hk,w1];refine⟨_,cB _ _ _,?_⟩;simp[Xt.2,hw]
  ·rw[hb];obtain⟨hl,dU,hn,hc⟩:=key k hk;simp[Ru,CK,hk,hl,dU,ho];refine⟨by omega,_,hn,?_⟩;rcases Nd ho with⟨o1,o2⟩|⟨o1,o2,o3⟩
   ·simp[o1,o2]
   ·rw[o2] at hc;simp[o1,o3,hk,w3];refine⟨_,cB _ _ _,?_⟩;cases e1:wi r.firms[k].city 0 ((r.cities.length:Int)-1)
    ·simp
    rw[e1,Bool.true_and] at hc;simp[hk,w1];refine⟨_,cB _ _ _,?_⟩;simp[←hc]
  ·rw[hj];simp[Ru,CK]
theorem awT (r:Realm)(h:Small r):ak T aaD [aZ r] (.int (ei (dZ r) 20 (l8 r))):=by
 refine .of_tree rfl ahC azF ?_;have g2:=h.orders;simp[TO];unfold ei;have hlen:(dZ r).length=r.orders.length:=by simp[dZ]
 rw[hlen];by_cases z2:(20:Int)<r.orders.length
 ·simp[z2]
 simp[z2];have key:∀k (hk:k<r.orders.length),((dZ r).take k).length=k∧D.list (List.take k (List.map str (dZ r))++[str r.orders[k].name])=strs ((dZ r).take (k+1))∧
  ak T BS [strs ((dZ r).take (k+1)),.int k] (.int (fO (dZ r) k))∧ak T PJ [ix r.orders[k]] (.bool (l8 r k)):=by
  intro k hk;have aY:k<(dZ r).length:=by omega
  have hg:(dZ r)[k]=r.orders[k].name:=by simp[dZ]
  have hs:(dZ r).take (k+1)=(dZ r).take k++[(dZ r)[k]]:=List.take_succ_eq_append_getElem aY;have hn:=Cj ((dZ r).take (k+1)) k (by rw[List.length_take];omega) (by rw[List.length_take];omega);rw[PR _ _ _ (by omega)] at hn;obtain⟨c1,c2⟩:=h.order _ (List.getElem_mem hk);exact⟨by rw[List.length_take];omega,by rw[hs,hg];simp[strs],hn,by simpa [l8,hk] using awQ r.orders[k] (by omega) (by omega)⟩
 refine m9 r.orders.length (jb (dZ r) (l8 r)) (fun k=>[.int 0,.none,.int k]) (fun k=>[strs ((dZ r).take k)]) ?_ (fun k hk ho=>?_) (fun k hk ho hb=>?_) (fun hj=>?_)
 ·simp[strs]
 ·have hw:=bl hk (by omega);obtain⟨hl,dU,hn,hc⟩:=key k hk;obtain⟨o1,o2⟩:=Az ho;rw[o1] at hn;rw[o2] at hc;simp[Rv,CL,hk,hl,dU];refine⟨by omega,_,hn,?_⟩;simp[hk];refine⟨_,hc,?_⟩;simp[hw]
 ·rw[hb];obtain⟨hl,dU,hn,hc⟩:=key k hk;simp[Rv,CL,hk,hl,dU,ho];refine⟨by omega,_,hn,?_⟩;rcases Nd ho with⟨o1,o2⟩|⟨o1,o2,o3⟩
  ·simp[o1,o2]
  ·rw[o2] at hc;simp[o1,o3,hk];refine⟨_,hc,?_⟩;simp
 ·rw[hj];simp[Rv,CL]
theorem awM (r:Realm)(h:Small r):ak T aav [aZ r] (.int (gJ r)):=by
 refine .of_tree rfl ahr azu ?_
 have e:gJ r=ew [ew [ei r.currencies 8 (fun _=>true),ei (eH r) 40 (nr r)],ew [rv r,ei (eI r) 200 (nE r)],ei (dZ r) 20 (l8 r),sR r,m5 r]:=by
  unfold gJ;simp only[ew];split<;>(try split)<;>(try split)<;>(try split)<;>simp_all
 rw[e];simp[TD];refine⟨_,awR r h,?_⟩;have h1:=awS r h;generalize ew [ei r.currencies 8 (fun _=>true),ei (eH r) 40 (nr r)]=x1 at*;generalize ew [rv r,ei (eI r) 200 (nE r)]=x2 at*;have h2:=awT r h;generalize ei (dZ r) 20 (l8 r)=x3 at*;have h3:=awV r h;generalize sR r=x4 at*;have h4:=awU r h;generalize m5 r=x5 at*;by_cases z1:x1=0
 case neg=>simp[z1,ew]
 simp[z1,ew];refine⟨_,h1,?_⟩;by_cases z2:x2=0
 case neg=>simp[z2]
 simp[z2];refine⟨_,h2,?_⟩;by_cases z3:x3=0
 case neg=>simp[z3]
 simp[z3];refine⟨_,h3,?_⟩;by_cases z4:x4=0
 case neg=>simp[z4]
 simp[z4];have e7:(if x5=0 then 0 else x5)=x5:=by split<;>simp_all
 rw[e7];exact h4
end Rm
namespace Rm
open Go Go.Proofs Cx
def iX:Nat→Tm→Int→Int
 |0,_,_=>-1
 |L+1,t,n=>t.args.foldl (fun m a=>if 0≤m then iX L a m else m) (n-1)
theorem size_le:∀(L:Nat) (t:Tm) (n:Int),0≤n→-1≤iX L t n∧iX L t n≤n
 |0,t,n,h=>by simp[iX];omega
 |L+1,t,n,h=>by
  have key:∀(l:List Tm) (m:Int),-1≤m→m≤n→-1≤l.foldl (fun m a=>if 0≤m then iX L a m else m) m∧l.foldl (fun m a=>if 0≤m then iX L a m else m) m≤n:=by
   intro l
   induction l with
   |nil=>intro m h1 h2;exact⟨h1,h2⟩
   |cons a l ih=>
    intro m h1 h2;simp only[List.foldl_cons];split
    ·rename_i hm;have:=size_le L a m hm;exact ih _ this.1 (by omega)
    ·exact ih _ h1 h2
  exact key _ _ (by omega) (by omega)
theorem afb (L:Nat):∀(l:List Tm) (m:Int),m<0→l.foldl (fun m a=>if 0≤m then iX L a m else m) m=m
 |[],m,h=>rfl
 |a::l,m,h=>by simp only[List.foldl_cons];rw[if_neg (by omega)];exact afb L l m h
theorem ap1 {α β:Type}(f:β→α→β)(b:β){l:List α}{k:Nat}(h:k<l.length):(l.take (k+1)).foldl f b=f ((l.take k).foldl f b) l[k]:=by
 rw[List.take_succ_eq_append_getElem h,List.foldl_append];rfl
theorem ap0 {α β:Type}(f:β→α→β)(b:β)(l:List α)(k:Nat):l.foldl f b=(l.drop k).foldl f ((l.take k).foldl f b):=by
 rw[←List.foldl_append,List.take_append_drop]
theorem _root_.Cx.Tm.OK.len {t:Tm}(h:t.OK):t.args.length≤9223372036854775807:=by cases h with|mk o n xs h1 h2 h3 h4=>exact h3
theorem _root_.Cx.Tm.OK.arg {t:Tm}(h:t.OK){a:Tm}(ha:a∈t.args):a.OK:=by cases h with|mk o n xs h1 h2 h3 h4=>exact h4 a ha
theorem ad7:∀(L:Nat) (t:Tm) (n:Int),t.OK→0≤n→n≤1000→L≤1000→ak T aaJ [dt t,.int n,.int L] (.int (iX L t n))
 |0,t,n,ht,h0,h1,hL=>by
  refine .of_tree rfl VH afp ?_;simp[Lx,iX]
 |L+1,t,n,ht,h0,h1,hL=>by
  refine .of_tree rfl VH afp ?_;have po:IntKind.i64.wrap (n-1)=n-1:=bD (by omega);have hl:=ht.len;have kc:¬((L:Int)+1<1):=by omega
  simp[Lx,po,kc]
  let g:Nat→Int:=fun k=>(t.args.take k).foldl (fun m a=>if 0≤m then iX L a m else m) (n-1)
  have gb:∀k,-1≤g k∧g k≤1000:=by
   intro k;have:g k=iX (L+1) (.mk 0 0 (t.args.take k)) n:=rfl;have:=size_le (L+1) (.mk 0 0 (t.args.take k)) n h0;omega
  refine .scan t.args.length (fun k=>0≤g k) (fun k=>[.int (g k),.int k]) (fun _=>[]) ?_ (fun k hk hj ho=>?_) (fun k hk hj ho=>?_) (fun hj=>?_)
  ·simp[g,po]
  ·have hw:IntKind.i64.wrap ((k:Int)+1)=(k:Int)+1:=bD (by omega);have GW:IntKind.i64.wrap (L:Int)=(L:Int):=bD (by omega);have hg:g (k+1)=iX L t.args[k] (g k):=by
    show(t.args.take (k+1)).foldl _ _=_;rw[ap1 _ _ hk];show(if 0≤g k then _ else _)=_;rw[if_pos ho]
   rw[hg];have gA:=ad7 L t.args[k] (g k) (ht.arg (List.getElem_mem hk)) ho (gb k).2 (by omega);generalize g k=m at*;simp[RC,CS,hk,ho,GW];refine⟨_,gA,?_⟩;simp[hw]
  ·have hf:iX (L+1) t n=g k:=by
    show t.args.foldl _ _=_;rw[ap0 _ _ _ k];exact afb L _ _ (by show g k<0;omega)
   rw[hf];generalize g k=m at*;simp[RC,CS,hk,ho]
  ·have hf:iX (L+1) t n=g t.args.length:=by
    show t.args.foldl _ _=(t.args.take t.args.length).foldl _ _;rw[List.take_length]
   rw[hf];generalize g t.args.length=m at*;simp[RC,CS]
theorem ad6 (t:Tm)(ht:t.OK):ak T aaI [dt t] (.bool (decide (0≤iX 20 t 100))):=by
 refine .of_tree rfl ahH azK ?_;simp[TU];refine⟨_,ad7 20 t 100 ht (by omega) (by omega) (by omega),?_⟩;simp
def oT (o:Order):Bool:=(decide (o.rules.length≤60)&&decide (o.choices.length≤60))&&dQ o.rules.length (fun k=>decide (0≤iX 20 (o.rules.getD k default).term 100))
theorem ad8 (o:Order)(ho:o.OK):ak T aaK [ix o] (.bool (oT o)):=by
 refine .of_tree rfl ahI azL ?_;simp[TV];by_cases h1:(o.rules.length:Int)≤60
 case neg=>
  have cg:(60:Int)<o.rules.length:=by omega
  have hf:oT o=false:=by
   have:decide (o.rules.length≤60)=false:=decide_eq_false (by omega);simp only[oT,this,Bool.false_and]
  simp[cg,hf]
 by_cases h2:(o.choices.length:Int)≤60
 case neg=>
  have cg:(60:Int)<o.choices.length:=by omega
  have hf:oT o=false:=by
   have:decide (o.choices.length≤60)=false:=decide_eq_false (by omega);simp only[oT,this,Bool.false_and,Bool.and_false]
  simp[cg,hf]
 have cg:¬(60:Int)<o.rules.length:=by omega
 have jc:¬(60:Int)<o.choices.length:=by omega
 have hf:oT o=dQ o.rules.length (fun k=>decide (0≤iX 20 (o.rules.getD k default).term 100)):=by
  have e1:decide (o.rules.length≤60)=true:=decide_eq_true (by omega);have e2:decide (o.choices.length≤60)=true:=decide_eq_true (by omega);simp only[oT,e1,e2,Bool.true_and]
 rw[hf];simp[cg,jc];have hO:=ho.2.2;refine fo o.rules.length (fun k=>decide (0≤iX 20 (o.rules.getD k default).term 100)) (fun k=>[.bool false,.int k]) (fun _=>[]) ?_ (fun k hk ho=>?_) (fun k hk ho hb=>?_) (fun hj=>?_)
 ·simp
 ·have hw:=bl hk (by omega);simp[hk] at ho;simp[RD,CT,hk];refine⟨_,ad6 _ (hO _ (List.getElem_mem hk)).2,?_⟩;simp[ho,hw]
 ·simp only[List.getD_eq_getElem?_getD] at hb;rw[hb];simp[hk] at ho;simp[RD,CT,hk];refine⟨_,ad6 _ (hO _ (List.getElem_mem hk)).2,?_⟩;simp[ho]
 ·simp only[List.getD_eq_getElem?_getD] at hj;rw[hj];simp[RD,CT]
def Aw (f:File):Bool:=decide ((f.signs.length:Int)≤50)&&decide ((f.alters.length:Int)≤10)&&decide ((f.acts.length:Int)≤110)&&decide ((f.facts.length:Int)≤220)
theorem aw1 (f:File):ak T aaH [cD f] (.bool (Aw f)):=by
 refine .of_tree rfl ahG azJ ?_;simp[TS,Aw];by_cases h1:(f.signs.length:Int)≤50<;>by_cases h2:(f.alters.length:Int)≤10<;>by_cases h3:(f.acts.length:Int)≤110<;>by_cases h4:(f.facts.length:Int)≤220<;>
  simp[h1,h2,h3,h4]
end Rm
namespace Rm
open Go Go.Proofs Cx
def Au (r:Realm)(k:Nat):Bool:=decide (((r.cities.getD k default).feasts.length:Int)≤70)&&decide (((r.cities.getD k default).shut.length:Int)≤210)&&decide (((r.cities.getD k default).rest.length:Int)≤8)
def Av (r:Realm)(k:Nat):Bool:=decide (((r.orders.getD k default).choices.length:Int)≤40)&&decide (((r.orders.getD k default).rules.length:Int)≤40)
def FT (r:Realm):Bool:=decide ((r.currencies.length:Int)<50)&&decide ((r.cities.length:Int)<50)&&decide ((r.groups.length:Int)<50)&&decide ((r.firms.length:Int)<210)&&decide ((r.orders.length:Int)<50)&&decide ((r.usances.length:Int)<110)&&decide ((r.rates.length:Int)<110)&&decide ((r.halts.length:Int)<50)
def nD (r:Realm):Bool:=dQ (min r.cities.length 50) (Au r)&&dQ (min r.orders.length 50) (Av r)&&FT r
theorem awN (r:Realm)(hr:r.OK):ak T aaw [aZ r] (.bool (nD r)):=by
 refine .of_tree rfl ahs azv ?_;simp[TE];refine fo (min r.cities.length 50) (Au r) (fun k=>[.bool false,.int k]) (fun _=>[]) ?_ (fun k hk ho=>?_) (fun k hk ho hb=>?_) (fun hj=>?_)
 ·simp
 ·have bt:k<r.cities.length:=by omega
  have cq:k<50:=by omega
  have hw:=bl cq (by omega);simp[Au,bt] at ho;obtain⟨⟨a1,a2⟩,a3⟩:=ho;have b1:¬(70:Int)<r.cities[k].feasts.length:=by omega
  have b2:¬(210:Int)<r.cities[k].shut.length:=by omega
  have b3:¬(8:Int)<r.cities[k].rest.length:=by omega
  simp[CB,vg,bt,cq,hw,b1,b2,b3];omega
 ·have bt:k<r.cities.length:=by omega
  have cq:k<50:=by omega
  have hf:nD r=false:=by simp only[nD,hb,Bool.false_and]
  rw[hf];simp[Au,bt] at ho;by_cases b1:(70:Int)<r.cities[k].feasts.length
  ·simp[CB,vg,bt,cq,b1];omega
  by_cases b2:(210:Int)<r.cities[k].shut.length
  ·simp[CB,vg,bt,cq,b1,b2];omega
  have b3:(8:Int)<r.cities[k].rest.length:=by have:=ho (by omega) (by omega);omega
  simp[CB,vg,bt,cq,b1,b2,b3];omega
 ·have hn:¬((min r.cities.length 50:Nat):Int)<r.cities.length∨¬((min r.cities.length 50:Nat):Int)<50:=by omega
  simp[CB,vg];rw[if_neg (by omega)];refine fo (min r.orders.length 50) (Av r) (fun k=>[.bool false,.int k]) (fun _=>[]) ?_ (fun k hk ho=>?_) (fun k hk ho hb=>?_) (fun Ba=>?_)
  ·simp
  ·have bt:k<r.orders.length:=by omega
   have cq:k<50:=by omega
   have hw:=bl cq (by omega);simp[Av,bt] at ho;obtain⟨a1,a2⟩:=ho;have b1:¬(40:Int)<r.orders[k].choices.length:=by omega
   have b2:¬(40:Int)<r.orders[k].rules.length:=by omega
   simp[KK,xS,bt,cq,hw,b1,b2];omega
  ·have bt:k<r.orders.length:=by omega
   have cq:k<50:=by omega
   have hf:nD r=false:=by simp only[nD,hb,Bool.false_and,Bool.and_false]
   rw[hf];simp[Av,bt] at ho;by_cases b1:(40:Int)<r.orders[k].choices.length
   ·simp[KK,xS,bt,cq,b1];omega
   have b2:(40:Int)<r.orders[k].rules.length:=by have:=ho (by omega);omega
   simp[KK,xS,bt,cq,b1,b2];omega
  ·have hf:nD r=FT r:=by simp only[nD,hj,Ba,Bool.true_and]
   rw[hf];simp[KK,xS];rw[if_neg (by omega)];unfold FT;by_cases c1:(r.currencies.length:Int)<50<;>simp[c1];by_cases c2:(r.cities.length:Int)<50<;>simp[c2];by_cases c3:(r.groups.length:Int)<50<;>simp[c3];by_cases c4:(r.firms.length:Int)<210<;>simp[c4];by_cases c5:(r.orders.length:Int)<50<;>simp[c5];by_cases c6:(r.usances.length:Int)<110<;>simp[c6];by_cases c7:(r.rates.length:Int)<110<;>simp[c7]
theorem M5 {r:Realm}(hr:r.OK)(h:nD r=true):Small r:=by
 simp only[nD,FT,Bool.and_eq_true,decide_eq_true_eq,vH] at h;obtain⟨⟨h1,h2⟩,⟨⟨⟨⟨⟨⟨⟨c1,c2⟩,c3⟩,c4⟩,c5⟩,c6⟩,c7⟩,c8⟩⟩:=h;obtain⟨k1,⟨k2,k2'⟩,⟨k3,k3'⟩,⟨k4,k4'⟩,⟨k5,k5'⟩,⟨k6,k6'⟩,⟨k7,k7'⟩,⟨k8,k8'⟩⟩:=hr;refine⟨by omega,by omega,by omega,by omega,by omega,by omega,by omega,by omega,fun c hc=>?_,fun o ho=>?_,fun x hx=>?_⟩
 ·obtain⟨k,hk,rfl⟩:=List.getElem_of_mem hc;have:=h1 k (by omega);simp[Au,hk] at this;have:=k2' _ hc;exact⟨by omega,by omega,by omega,fun y hy=>this.2.2.2.1.2 y hy⟩
 ·obtain⟨k,hk,rfl⟩:=List.getElem_of_mem ho;have:=h2 k (by omega);simp[Av,hk] at this;omega
 ·have:=k7' x hx;exact⟨this.2.2.1,this.2.2.2.1⟩
def oS (r:Realm)(f:File):Bool:=(nD r&&Aw f)&&dQ r.orders.length (fun k=>oT (r.orders.getD k default))
theorem aw2 (r:Realm)(f:File)(hr:r.OK):ak T aaL [aZ r,cD f] (.bool (oS r f)):=by
 refine .of_tree rfl ahJ azM ?_;simp[TW];refine⟨_,awN r hr,?_⟩;cases e1:nD r
 ·simp[oS,e1]
 simp;refine⟨_,aw1 f,?_⟩;cases e2:Aw f
 ·simp[oS,e1,e2]
 have hs:=M5 hr e1;have ho:=hs.orders;have hf:oS r f=dQ r.orders.length (fun k=>oT (r.orders.getD k default)):=by simp only[oS,e1,e2,Bool.true_and]
 rw[hf];simp;have hO:=hr.2.2.2.2.1.2;refine fo r.orders.length (fun k=>oT (r.orders.getD k default)) (fun k=>[.bool false,.int k]) (fun _=>[]) ?_ (fun k hk ho=>?_) (fun k hk ho hb=>?_) (fun hj=>?_)
 ·simp
 ·have hw:=bl hk (by omega);simp[hk] at ho;simp[RE,CU,hk];refine⟨_,ad8 _ (hO _ (List.getElem_mem hk)),?_⟩;simp[ho,hw]
 ·simp only[List.getD_eq_getElem?_getD] at hb;rw[hb];simp[hk] at ho;simp[RE,CU,hk];refine⟨_,ad8 _ (hO _ (List.getElem_mem hk)),?_⟩;simp[ho]
 ·simp only[List.getD_eq_getElem?_getD] at hj;rw[hj];simp[RE,CU]
def AK (r:Realm)(f:File):Bool:=oS r f&&decide (gJ r=0)
def nw (n:Int):Int:=min (max n (-1099511627776)) 1099511627776
theorem Lm (n:Int):ak T abp [.int n] (.int (nw n)):=by
 refine .of_tree rfl aiv aAw ?_;simp[UI,nw];by_cases h1:-1099511627776>n
 ·have:¬(1099511627776:Int)< -1099511627776:=by omega
  simp[h1];omega
 ·by_cases h2:(1099511627776:Int)<n
  ·simp[h1,h2];omega
  ·simp[h1,h2];omega
def ll (v:Int):Int×Bool:=if v<0∨19<v then(0,false) else if v<7 then(0,true) else(1,true)
theorem afi (v:Int):ak T abl [.int v] (.tup [.int (ll v).1,.bool (ll v).2]):=by
 refine .of_tree rfl air aAs ?_;simp[UE,ll];by_cases h1:v<0
 ·simp[h1]
 by_cases h2:19<v
 ·simp[h1,h2]
 by_cases h3:v<7
 ·simp[h1,h2,h3]
 ·simp[h1,h2,h3]
def BL (t:Tm):Int×Int:=
 if 0<t.args.length then(0,2) else if t.op=0 then(if nw t.n≠t.n then(0,3) else(0,0)) else if t.op=1 then(if t.n<0∨1<t.n then(0,3) else(1,0)) else if(ll t.n).2=false then(0,10) else((ll t.n).1,0)
theorem ayn (t:Tm):ak T abq [dt t] (.tup [.int (BL t).1,.int (BL t).2]):=by
 refine .of_tree rfl aiw aAx ?_;simp[UJ,BL];by_cases h0:0<t.args.length
 ·have ej:(0:Int)<t.args.length:=by omega
  simp[h0,ej]
 simp[h0];by_cases h1:t.op=0
 ·simp[h1];refine⟨_,Lm _,?_⟩;by_cases h2:nw t.n=t.n<;>simp[h2]
 by_cases h2:t.op=1
 ·simp[h1,h2];by_cases h3:t.n<0<;>by_cases h4:1<t.n<;>simp[h3,h4]
 simp[h1,h2];refine⟨_,afi _,?_⟩;cases h3:(ll t.n).2<;>simp[h3]
def ez (op:Int):List Int×Int:=
 if op=3 then([1],1) else if op=4∨op=5 then([1,1],1) else if op=6 then([1,-1,-1],-1) else if op=7 then([0,0],1) else if op=8 then([-1,-1],1) else([0,0],0)
def Aq (s:List Int×Int):D:=.agg [ints s.1,.int s.2]
@[simp] theorem aDo (s:List Int×Int):(Aq s).cells=[ints s.1,.int s.2]:=_root_.id rfl
@[simp] theorem aDm (s:List Int×Int):(Aq s).c 0=ints s.1:=_root_.id rfl
@[simp] theorem aDn (s:List Int×Int):(Aq s).c 1=.int s.2:=_root_.id rfl
@[simp] theorem aGW (s:List Int×Int):D.agg [ints s.1,.int s.2]=Aq s:=_root_.id rfl
@[simp] theorem aH1 (x y:Int):sL (.int x) 0 (.int y)=.int y:=_root_.id rfl
theorem ayp (op:Int):ak T abv [.int op] (Aq (ez op)):=by
 refine .of_tree rfl aiA aAB ?_;simp[UM,ez];by_cases h3:op=3
 ·simp[h3];rfl
 by_cases h4:op=4
 ·simp[h4];rfl
 by_cases h5:op=5
 ·simp[h5];rfl
 by_cases h6:op=6
 ·simp[h6];rfl
 by_cases h7:op=7
 ·simp[h7];rfl
 by_cases h8:op=8
 ·simp[h8];rfl
 simp[h3,h4,h5,h6,h7,h8];rfl
end Rm
namespace Rm
open Go Go.Proofs Cx
def eX (f:Tm→Int):List Tm→Int→Int
 |[],n=>n
 |a::l,n=>if 60<n+f a then n+f a else eX f l (n+f a)
def cw:Nat→Tm→Int
 |0,_=>61
 |L+1,t=>eX (cw L) t.args 1
def dv (f:Tm→Int)(l:List Tm):Int:=(l.map f).sum
theorem Hc {f:Tm→Int}{l:List Tm}{k:Nat}(h:k<l.length):dv f (l.take (k+1))=dv f (l.take k)+f l[k]:=by
 unfold dv;rw[yk f h,List.sum_append];simp
theorem Zs {f:Tm→Int}:∀{l:List Tm} {n:Int} {k:Nat},(hk:k<l.length)→(∀j,j<k→n+dv f (l.take (j+1))≤60)→60<n+dv f (l.take (k+1))→eX f l n=n+dv f (l.take (k+1))
 |a::l,n,0,hk,_,h=>by
  simp[dv] at h ⊢;unfold eX;rw[if_pos (by omega)]
 |a::l,n,k+1,hk,hj,h=>by
  have h0:=hj 0 (by omega);simp[dv] at h0;unfold eX;rw[if_neg (by omega)];have e:∀j,n+dv f ((a::l).take (j+1+1))=n+f a+dv f (l.take (j+1)):=by intro j;simp[dv];omega
  rw[Zs (l:=l) (k:=k) (by simpa using hk) (fun j Gv=>by have:=hj (j+1) (by omega);rw[e] at this;exact this) (by rw[←e];exact h),e]
theorem Zu {f:Tm→Int}:∀{l:List Tm} {n:Int},(∀j,j<l.length→n+dv f (l.take (j+1))≤60)→eX f l n=n+dv f l
 |[],n,_=>by simp[eX,dv]
 |a::l,n,hj=>by
  have h0:=hj 0 (by simp);simp[dv] at h0;unfold eX;rw[if_neg (by omega)];have e:∀j,n+dv f ((a::l).take (j+1+1))=n+f a+dv f (l.take (j+1)):=by intro j;simp[dv];omega
  rw[Zu (l:=l) (fun j fh=>by have:=hj (j+1) (by simpa using fh);rw[e] at this;exact this)];simp[dv];omega
theorem Zt {f:Tm→Int}(hf:∀a,1≤f a):∀{l:List Tm} {n:Int},n≤eX f l n
 |[],n=>by simp[eX]
 |a::l,n=>by
  unfold eX;have:=hf a;split
  ·omega
  ·have:=Zt hf (l:=l) (n:=n+f a);omega
theorem uD:∀(L:Nat) (t:Tm),1≤cw L t
 |0,t=>by simp[cw]
 |L+1,t=>Zt (uD L)
theorem Zv {f:Tm→Int}{B:Int}(hf:∀a,f a≤B)(hB:0≤B):∀{l:List Tm} {n:Int},n≤60→eX f l n≤60+B
 |[],n,h=>by simp[eX];omega
 |a::l,n,h=>by
  unfold eX;have:=hf a;split
  ·omega
  ·exact Zv hf hB (by omega)
theorem Zx:∀(L:Nat) (t:Tm),cw L t≤61+60*L
 |0,t=>by simp[cw]
 |L+1,t=>by
  have:=Zv (f:=cw L) (fun a=>Zx L a) (by omega) (l:=t.args) (n:=1) (by omega);show eX _ _ _≤_;omega
theorem Zw {f:Tm→Int}(hf:∀a,1≤f a):∀{l:List Tm} {n:Int},eX f l n≤60→(n:Int)+l.length≤60∧∀a,a∈l→f a≤60-n
 |[],n,h=>by simp[eX] at h ⊢;exact h
 |a::l,n,h=>by
  unfold eX at h;have:=hf a;split at h
  ·omega
  ·obtain⟨h1,h2⟩:=Zw hf h;refine⟨by simp;omega,fun b hb=>?_⟩;rcases List.mem_cons.1 hb with rfl|hb
   ·omega
   ·have:=h2 b hb;omega
theorem Ps {L:Nat}{t:Tm}(h:cw (L+1) t≤60):t.args.length≤59∧∀a,a∈t.args→cw L a≤60:=by
 obtain⟨h1,h2⟩:=Zw (uD L) h;exact⟨by omega,fun a ha=>by have:=h2 a ha;omega⟩
theorem Sw:∀(L:Nat) (t:Tm) (lv:Int),t.OK→L≤8→lv=9-(L:Int)→ak T abt [dt t,.int lv] (.int (cw L t))
 |0,t,lv,ht,hL,NY=>by
  refine .of_tree rfl VJ afr ?_;subst NY;simp[LA,cw]
 |L+1,t,lv,ht,hL,NY=>by
  refine .of_tree rfl VJ afr ?_;have hl:=ht.len;have h8:¬(8<lv):=by omega
  have GW:IntKind.i64.wrap (lv+1)=lv+1:=bD (by omega);simp[LA,h8];refine .scan t.args.length (fun k=>1+dv (cw L) (t.args.take (k+1))≤60) (fun k=>[.int (1+dv (cw L) (t.args.take k)),.int k]) (fun _=>[]) ?_ (fun k hk hj ho=>?_) (fun k hk hj ho=>?_) (fun hj=>?_)
  ·simp[dv]
  all_goals try rw[Hc hk] at ho
  ·have hw:IntKind.i64.wrap ((k:Int)+1)=(k:Int)+1:=bD (by omega);have gA:=Sw L t.args[k] (lv+1) (ht.arg (List.getElem_mem hk)) (by omega) (by omega);rw[Hc hk];have hs:0≤dv (cw L) (t.args.take k):=by
    unfold dv;have:∀(l:List Tm),0≤(l.map (cw L)).sum:=by
     intro l
     induction l with
     |nil=>simp
     |cons a l ih=>have:=uD L a;simp;omega
    exact this _
   have iI:=uD L t.args[k];generalize dv (cw L) (t.args.take k)=m at*;generalize cw L t.args[k]=v at*;have qz:IntKind.i64.wrap (1+m+v)=1+m+v:=bD (by omega);have dD:¬60<1+m+v:=by omega
   simp[R3,Di,hk,GW];refine⟨_,gA,?_⟩;simp[qz,dD,hw];omega
  ·have gA:=Sw L t.args[k] (lv+1) (ht.arg (List.getElem_mem hk)) (by omega) (by omega);have hf:cw (L+1) t=1+dv (cw L) (t.args.take (k+1)):=Zs hk hj (by rw[Hc hk];omega);rw[hf,Hc hk];have hs:0≤dv (cw L) (t.args.take k)∧1+dv (cw L) (t.args.take k)≤60:=by
    constructor
    ·unfold dv;have:∀(l:List Tm),0≤(l.map (cw L)).sum:=by
       intro l
       induction l with
       |nil=>simp
       |cons a l ih=>have:=uD L a;simp;omega
     exact this _
    ·cases k with
     |zero=>simp[dv]
     |succ k=>exact hj k (by omega)
   have iI:=uD L t.args[k];have dh:=Zx L t.args[k];generalize dv (cw L) (t.args.take k)=m at*;generalize cw L t.args[k]=v at*;have qz:IntKind.i64.wrap (1+m+v)=1+m+v:=bD (by omega);have dD:60<1+m+v:=by omega
   simp[R3,Di,hk,GW];refine⟨_,gA,?_⟩;simp[qz,dD];omega
  ·have hf:cw (L+1) t=1+dv (cw L) t.args:=Zu hj;rw[hf];simp[R3,Di]
def lZ (ws ts:List Int):Nat→Int
 |0=>-1
 |k+1=>if ws.getD k 0=-1∧lZ ws ts k=-1 then ts.getD k 0 else lZ ws ts k
def mQ (ws ts:List Int)(k:Nat):Bool:=if ws.getD k 0=-1 then decide (lZ ws ts k=-1)||decide (ts.getD k 0=lZ ws ts k) else decide (ts.getD k 0=ws.getD k 0)
def uF (t:Tm)(ks:List Int):Int×Int:=
 if t.op<0∨13<t.op then(0,1) else if t.op=0∨t.op=1∨t.op=2 then BL t else
 if ks.length≠(ez t.op).1.length∨t.n≠0 then(0,2) else
 if dQ (ez t.op).1.length (mQ (ez t.op).1 ks)=false then(0,11) else if(ez t.op).2=-1 then(lZ (ez t.op).1 ks (ez t.op).1.length,0) else((ez t.op).2,0)
def cd:Nat→Tm→Int×Int
 |0,_=>(0,0)
 |L+1,t=>if eQ t.args.length (fun k=>(cd L (t.args.getD k default)).2)≠0 then(0,eQ t.args.length (fun k=>(cd L (t.args.getD k default)).2)) else uF t (t.args.map fun a=>(cd L a).1)
theorem MG (L:Nat)(t:Tm):cd (L+1) t=if eQ t.args.length (fun k=>(cd L (t.args.getD k default)).2)≠0 then(0,eQ t.args.length (fun k=>(cd L (t.args.getD k default)).2)) else uF t (t.args.map fun a=>(cd L a).1):=rfl
theorem Sk {α:Type}(A:List α)(z:α){k n:Nat}(hA:A.length=n)(hk:k<n):(A.take k++List.replicate (n-k) z).set k A[k]=A.take (k+1)++List.replicate (n-(k+1)) z:=by
 have h1:(A.take k).length=k:=by rw[List.length_take];omega
 rw[List.set_append_right _ _ (by omega),h1,Nat.sub_self];have:n-k=(n-(k+1))+1:=by omega
 rw[this,List.replicate_succ,List.set_cons_zero,List.take_succ_eq_append_getElem (by omega),List.append_assoc];rfl
theorem ax3 (op:Int):(ez op).1.length≤3:=by
 unfold ez;repeat' split
 all_goals simp
theorem Sv:∀(L:Nat) (t:Tm),t.OK→cw L t≤60→ak T abn [dt t] (.tup [.int (cd L t).1,.int (cd L t).2])
 |0,t,ht,hm=>by simp[cw] at hm
 |L+1,t,ht,hm=>by
  refine .of_tree rfl ait aAu ?_;obtain⟨hl,hp⟩:=Ps hm;simp[UG];refine⟨by omega,?_⟩;refine m9 t.args.length (fun k=>(cd L (t.args.getD k default)).2) (fun k=>[.int 0,.int 0,.int k]) (fun k=>[ints ((t.args.map fun a=>(cd L a).1).take k++List.replicate (t.args.length-k) 0)]) ?_ (fun k hk ho=>?_) (fun k hk ho hb=>?_) (fun hj=>?_)
  ·simp[ints]
  ·have hw:=bl hk (by omega);have cJ:=List.getElem_mem hk;have gA:=Sv L t.args[k] (ht.arg cJ) (hp _ cJ);have hs:=Sk (t.args.map fun a=>(cd L a).1) 0 (n:=t.args.length) (by simp) hk;rw[←hs];have hlen:((t.args.map fun a=>(cd L a).1).take k++List.replicate (t.args.length-k) (0:Int)).length=t.args.length:=by simp;omega
   have hgk:(t.args.map fun a=>(cd L a).1)[k]'(by simpa using hk)=(cd L t.args[k]).1:=by simp
   rw[hgk];generalize (t.args.map fun a=>(cd L a).1).take k++List.replicate (t.args.length-k) (0:Int)=A at*;simp[hk] at ho;rw[ho] at gA;generalize (cd L t.args[k]).1=kd at*;simp[R1,Dg,hk];refine⟨_,gA,?_⟩;simp[hlen,hk,hw,ints]
  ·have cJ:=List.getElem_mem hk;have gA:=Sv L t.args[k] (ht.arg cJ) (hp _ cJ);have hf:cd (L+1) t=(0,(cd L (t.args.getD k default)).2):=by
    rw[MG,hb,if_pos ho]
   rw[hf];simp[hk] at ho ⊢;simp[R1,Dg,hk];refine⟨_,gA,?_⟩;simp[ho]
  ·have hf:cd (L+1) t=uF t (t.args.map fun a=>(cd L a).1):=by
    rw[MG,hj];simp
   rw[hf]
   have e0:(t.args.map fun a=>(cd L a).1).take t.args.length++List.replicate (t.args.length-t.args.length) 0=t.args.map fun a=>(cd L a).1:=by
    rw[Nat.sub_self,List.take_of_length_le (by simp)];simp
   rw[e0];have XS:(t.args.map fun a=>(cd L a).1).length=t.args.length:=by simp
   generalize (t.args.map fun a=>(cd L a).1)=ks at*;simp[R1,Dg];unfold uF;by_cases h1:t.op<0
   ·simp[h1]
   by_cases h2:13<t.op
   ·simp[h1,h2]
   simp[h1,h2];by_cases h3:t.op=0∨t.op=1∨t.op=2
   ·have dx:(t.op=0∨t.op=1)∨t.op=2:=by omega
    simp[h3,dx];refine⟨_,ayn t,?_⟩;simp
   have dx:¬((t.op=0∨t.op=1)∨t.op=2):=by omega
   simp[h3,dx];refine⟨_,ayp _,?_⟩;have hsl:=ax3 t.op;generalize ez t.op=sh at*;simp;by_cases h4:ks.length=sh.1.length
   case neg=>
    have lJ:¬((ks.length:Int)=sh.1.length):=by omega
    have F5:¬t.args.length=sh.1.length:=by omega
    simp[h4,lJ,F5]
   have lJ:(ks.length:Int)=sh.1.length:=by omega
   have F5:t.args.length=sh.1.length:=by omega
   by_cases h5:t.n=0
   case neg=>simp[h4,lJ,F5,h5]
   simp[h4,lJ,F5,h5];refine fo sh.1.length (mQ sh.1 ks) (fun k=>[.int 0,.int 0,.int (lZ sh.1 ks k),.int k]) (fun _=>[]) ?_ (fun k hk ho=>?_) (fun k hk ho hb=>?_) (fun hj=>?_)
   ·simp[lZ]
   ·have hw:=bl hk (by omega);have cq:k<ks.length:=by omega
    simp only[lZ];unfold mQ at ho;simp only[List.getD_eq_getElem?_getD,List.getElem?_eq_getElem hk,List.getElem?_eq_getElem cq,Option.getD_some] at ho ⊢;generalize lZ sh.1 ks k=c at*;by_cases a1:sh.1[k]=-1
    ·by_cases a2:c=-1
     ·simp[xZ,sB,hk,cq,hw,ints,a1,a2]
     ·simp[a1,a2] at ho;simp[xZ,sB,hk,cq,hw,ints,a1,a2,ho]
    ·simp[a1] at ho;simp[xZ,sB,hk,cq,hw,ints,a1,ho]
   ·rw[hb];have cq:k<ks.length:=by omega
    unfold mQ at ho;simp only[List.getD_eq_getElem?_getD,List.getElem?_eq_getElem hk,List.getElem?_eq_getElem cq,Option.getD_some] at ho;generalize lZ sh.1 ks k=c at*;by_cases a1:sh.1[k]=-1
    ·by_cases a2:c=-1
     ·simp[a1,a2] at ho
     ·simp[a1,a2] at ho;simp[xZ,sB,hk,cq,ints,a1,a2,ho]
    ·simp[a1] at ho;simp[xZ,sB,hk,cq,ints,a1,ho]
   ·rw[hj];simp[xZ,sB];by_cases a1:sh.2=-1<;>simp[a1]
def mq (t:Tm):Int×Int:=if 60<cw 8 t then(0,6) else cd 8 t
theorem afh (t:Tm)(ht:t.OK):ak T abj [dt t] (.tup [.int (mq t).1,.int (mq t).2]):=by
 refine .of_tree rfl aip aAq ?_;simp[UC,mq];refine⟨_,Sw 8 t 1 ht (by omega) (by omega),?_⟩;by_cases h:60<cw 8 t
 ·simp[h]
 simp[h];refine⟨_,Sv 8 t ht (by omega),?_⟩;simp
end Rm
namespace Rm
open Go Go.Proofs Cx
abbrev u (n:Nat):D:=.v (.int .u64 n)
theorem afF (n:Int):IntKind.u64.wrap n=n%18446744073709551616:=rfl
theorem DL {n:Int}(h:0≤n∧n<18446744073709551616):IntKind.u64.wrap n=n:=by
 rw[afF];omega
theorem vy {n:Nat}(h:n<18446744073709551616):IntKind.u64.wrap (n:Int)=n:=DL (by omega)
theorem ax4 (a s:Nat)(h:s≤64):cY .shr .u64 a s=((a/2^s:Nat):Int):=by
 show Int.fdiv (a:Int) (2^(min (s:Int).toNat 64))=_;have:min (s:Int).toNat 64=s:=by simp;omega
 rw[this,Int.fdiv_eq_ediv_of_nonneg _ (Int.le_of_lt (Int.pow_pos (by decide)))];rw[Int.natCast_ediv,Int.natCast_pow];rfl
theorem LS (a:Nat)(h:a<18446744073709551616):cY .and .u64 a 4294967295=((a%4294967296:Nat):Int):=by
 show IntKind.u64.wrap ((BitVec.ofInt 64 (a:Int)&&& BitVec.ofInt 64 4294967295).toNat:Nat)=_;have e:(BitVec.ofInt 64 (a:Int)&&& BitVec.ofInt 64 4294967295).toNat=a%4294967296:=by
  rw[BitVec.toNat_and];have e1:(BitVec.ofInt 64 (a:Int)).toNat=a:=by simp[BitVec.ofInt,BitVec.toNat_ofNat];omega
  have e2:(BitVec.ofInt 64 4294967295).toNat=2^32-1:=by decide
  rw[e1,e2,Nat.and_two_pow_sub_one_eq_mod]
 rw[e,vy (by omega)]
@[simp] theorem yf (a:Nat):cY .shr .u64 a 32=((a/4294967296:Nat):Int):=ax4 a 32 (by decide)
set_option maxHeartbeats 2000000 in
theorem avc (a b:Nat)(ha:a<18446744073709551616)(hb:b<18446744073709551616):ak T ZO [u a,u b] (.tup [u (a*b/18446744073709551616),u (a*b%18446744073709551616)]):=by
 refine .of_tree rfl agC ayE ?_;obtain⟨h1,h2,h3,h4⟩:=Go.Lib.mul64_hi a b ha hb;have elo:IntKind.u64.wrap ((a:Int)*(b:Int))=((a*b%18446744073709551616:Nat):Int):=by rw[afF,Int.natCast_emod,Int.natCast_mul];rfl
 have MX:cY .shr .u64 (a:Int) 32=((a/4294967296:Nat):Int):=yf a;have ea0:cY .and .u64 (a:Int) 4294967295=((a%4294967296:Nat):Int):=LS a ha;have MY:cY .shr .u64 (b:Int) 32=((b/4294967296:Nat):Int):=yf b;have eb0:cY .and .u64 (b:Int) 4294967295=((b%4294967296:Nat):Int):=LS b hb;have aF6:=Go.Lib.half_mul_le (a:=a/4294967296) (b:=b/4294967296) (by omega) (by omega);have aF5:=Go.Lib.half_mul_le (a:=a/4294967296) (b:=b%4294967296) (by omega) (by omega);have aF4:=Go.Lib.half_mul_le (a:=a%4294967296) (b:=b/4294967296) (by omega) (by omega);have aF3:=Go.Lib.half_mul_le (a:=a%4294967296) (b:=b%4294967296) (by omega) (by omega);have wD:a*b/18446744073709551616<18446744073709551616:=by
  have:a*b<18446744073709551616*18446744073709551616:=Nat.mul_lt_mul'' ha hb;exact Nat.div_lt_of_lt_mul this
 simp only[SM];generalize a/4294967296=a1 at*;generalize a%4294967296=a0 at*;generalize b/4294967296=b1 at*;generalize b%4294967296=b0 at*;have p11:IntKind.u64.wrap ((a1:Int)*(b1:Int))=((a1*b1:Nat):Int):=by rw[←Int.natCast_mul];exact vy (by omega)
 have p10:IntKind.u64.wrap ((a1:Int)*(b0:Int))=((a1*b0:Nat):Int):=by rw[←Int.natCast_mul];exact vy (by omega)
 have p01:IntKind.u64.wrap ((a0:Int)*(b1:Int))=((a0*b1:Nat):Int):=by rw[←Int.natCast_mul];exact vy (by omega)
 have p00:IntKind.u64.wrap ((a0:Int)*(b0:Int))=((a0*b0:Nat):Int):=by rw[←Int.natCast_mul];exact vy (by omega)
 rw[←h4] at wD ⊢;generalize a1*b1=P at*;generalize a1*b0=Q at*;generalize a0*b1=R at*;generalize a0*b0=S at*;have s1:cY .shr .u64 (S:Int) 32=((S/4294967296:Nat):Int):=yf S;have s2:IntKind.u64.wrap ((Q:Int)+((S/4294967296:Nat):Int))=((Q+S/4294967296:Nat):Int):=by rw[DL (by omega)];omega
 generalize S/4294967296=S1 at*;generalize hT:Q+S1=TT at*;have s3:cY .shr .u64 (TT:Int) 32=((TT/4294967296:Nat):Int):=yf TT;have s4:cY .and .u64 (TT:Int) 4294967295=((TT%4294967296:Nat):Int):=LS TT (by omega);have s5:IntKind.u64.wrap (((TT%4294967296:Nat):Int)+(R:Int))=((TT%4294967296+R:Nat):Int):=by rw[DL (by omega)];omega
 generalize hU:TT%4294967296+R=U at*;have s6:cY .shr .u64 (U:Int) 32=((U/4294967296:Nat):Int):=yf U;have s7:IntKind.u64.wrap ((P:Int)+((TT/4294967296:Nat):Int))=((P+TT/4294967296:Nat):Int):=by rw[DL (by omega)];omega
 have s8:IntKind.u64.wrap (((P+TT/4294967296:Nat):Int)+((U/4294967296:Nat):Int))=((P+TT/4294967296+U/4294967296:Nat):Int):=by rw[DL (by omega)];omega
 simp[-yf,-Int.natCast_add,-Int.natCast_mul,-Int.natCast_ediv,-Int.natCast_emod,elo,MX,ea0,MY,eb0,p11,p10,p01,p00,s1,s2,s3,s4,s5,s6,s7,s8]
def qM (m:Nat):Int:=if m<1099511627776 then m else 1099511627776
def xD (a b:Int):Int:=if(decide (a<0)!=decide (b<0))=true then-qM (a.natAbs*b.natAbs) else qM (a.natAbs*b.natAbs)
theorem adC (m:Nat):0≤qM m∧qM m≤1099511627776:=by unfold qM;split<;>omega
set_option maxHeartbeats 1000000 in
theorem ayo (a b:Int)(ha:-1099511627776≤a∧a≤1099511627776)(hb:-1099511627776≤b∧b≤1099511627776):ak T abu [.int a,.int b] (.int (xD a b)):=by
 refine .of_tree rfl aiz aAA ?_;have wa:IntKind.u64.wrap (a.natAbs:Int)=a.natAbs:=vy (by omega);have wb:IntKind.u64.wrap (b.natAbs:Int)=b.natAbs:=vy (by omega);have w0a:IntKind.i64.wrap (0-a)=-a:=by rw[bD (by omega)];omega
 have w0b:IntKind.i64.wrap (0-b)=-b:=by rw[bD (by omega)];omega
 have aA0:IntKind.i64.wrap (-a)=-a:=bD (by omega);have aA1:IntKind.i64.wrap (-b)=-b:=bD (by omega);have ea:(if a< -a then D.int (-a) else D.int a)=D.int a.natAbs:=by split<;>congr 1<;>omega
 have eb:(if b< -b then D.int (-b) else D.int b)=D.int b.natAbs:=by split<;>congr 1<;>omega
 have ea':(if a< -a then-a else a)=(a.natAbs:Int):=by split<;>omega
 have eb':(if b< -b then-b else b)=(b.natAbs:Int):=by split<;>omega
 simp[UL,aA0,aA1,ea,eb,ea',eb'];rw[wa,wb];refine⟨_,avc a.natAbs b.natAbs (by omega) (by omega),?_⟩;unfold xD;generalize a.natAbs*b.natAbs=m;have hs:(decide (a<0)!=decide (b<0))=false↔(a<0↔b<0):=by
  by_cases h1:a<0<;>by_cases h2:b<0<;>simp[h1,h2]
 have key:((if((m/18446744073709551616:Nat):Int)=0∧((m%18446744073709551616:Nat):Int)<1099511627776 then IntKind.i64.wrap ((m%18446744073709551616:Nat):Int) else 1099511627776):Int)=qM m:=by
  unfold qM;by_cases hm:m<1099511627776
  ·have h1:m/18446744073709551616=0:=by omega
   have h2:m%18446744073709551616=m:=by omega
   rw[h1,h2,if_pos ⟨rfl,by omega⟩,if_pos hm,bD (by omega)]
  ·rw[if_neg hm,if_neg];rintro⟨h1,h2⟩;omega
 have fA:=adC m;have atu:(if((m/18446744073709551616:Nat):Int)=0∧((m%18446744073709551616:Nat):Int)<1099511627776 then D.int (IntKind.i64.wrap ((m%18446744073709551616:Nat):Int)) else D.int 1099511627776)=D.int (qM m):=by
  rw[←key];split<;>rfl
 show(if a<0↔b<0 then(if((m/18446744073709551616:Nat):Int)=0∧((m%18446744073709551616:Nat):Int)<1099511627776 then D.int (IntKind.i64.wrap ((m%18446744073709551616:Nat):Int)) else D.int 1099511627776)=_ else
  IntKind.i64.wrap (-(if((m/18446744073709551616:Nat):Int)=0∧((m%18446744073709551616:Nat):Int)<1099511627776 then IntKind.i64.wrap ((m%18446744073709551616:Nat):Int) else 1099511627776))=_)
 rw[atu,key];generalize qM m=n at*;split
 ·rename_i h;rw[hs.2 h];simp
 ·rename_i h;have:(decide (a<0)!=decide (b<0))=true:=by
   cases e:(decide (a<0)!=decide (b<0)) with
   |true=>rfl
   |false=>exact absurd (hs.1 e) h
  rw[this,bD (by omega)];simp
def vK (op a b:Int):Int:=if op=9 then nw (a+b) else if op=10 then nw (a-b) else if op=11 then xD a b else if op=12 then min a b else max a b
theorem ayl (op a b:Int)(ha:-1099511627776≤a∧a≤1099511627776)(hb:-1099511627776≤b∧b≤1099511627776):ak T abm [.int op,.int a,.int b] (.int (vK op a b)):=by
 refine .of_tree rfl ais aAt ?_;have w1:IntKind.i64.wrap (a+b)=a+b:=bD (by omega);have w2:IntKind.i64.wrap (a-b)=a-b:=bD (by omega);simp[UF,vK,w1,w2];by_cases h1:op=9
 ·simp[h1];exact Lm _
 by_cases h2:op=10
 ·simp[h1,h2];exact Lm _
 by_cases h3:op=11
 ·simp[h1,h2,h3];exact ayo a b ha hb
 by_cases h4:op=12
 ·simp[h1,h2,h3,h4];by_cases h5:b<a<;>simp[h5]<;>omega
 simp[h1,h2,h3,h4];by_cases h5:b>a<;>simp[h5]<;>omega
def fT (b:Bool):Cell:=if b then⟨true,1⟩ else⟨true,0⟩
theorem sN (b:Bool):ak T abw [.bool b] (cF (fT b)):=by
 refine .of_tree rfl aiB aAC ?_;cases b<;>simp[UN,fT]<;>rfl
def dK:Cell:=⟨false,0⟩
@[simp] theorem aG0:D.agg [.bool false,.int 0]=cF dK:=_root_.id rfl
@[simp] theorem aG1:dK.known=false:=rfl
@[simp] theorem aG2:dK.n=0:=rfl
def cellAt (cs:List Cell)(v:Int):Cell:=cs.getD v.toNat default
def kA (cs:List Cell)(v:Int):Cell:=if cs.length≤v.toNat∨(cellAt cs v).known=false then dK else if(ll v).1=1 then fT (decide ((cellAt cs v).n≠0)) else⟨true,nw (cellAt cs v).n⟩
abbrev M0 (cs:List Cell):D:=.agg [cells cs]
theorem ayq (cs:List Cell)(v:Int)(hv:0≤v):ak T abr [M0 cs,.int v] (cF (kA cs v)):=by
 refine .of_tree rfl aiy aAz ?_;obtain⟨k,rfl⟩:=Int.eq_ofNat_of_zero_le hv;simp[UK,kA,cellAt];by_cases h1:cs.length≤k
 ·simp[h1]
 have cg:k<cs.length:=by omega
 simp[h1,cg];cases h2:cs[k].known
 ·simp[h2]
 simp[h2];refine⟨_,afi _,?_⟩;by_cases h3:(ll k).1=1
 ·simp[h3,cg];refine⟨_,sN _,?_⟩;simp;rfl
 ·simp[h3,cg];refine⟨_,Lm _,?_⟩;simp;rfl
@[simp] theorem aGm (a b:Int):(a==b)=decide (a=b):=_root_.id rfl
@[simp] theorem aGn (a b:Int):(a !=b)= !decide (a=b):=_root_.id rfl
def bm (l:List Cell)(k:Nat):Cell:=l.getD k default
def fX (op:Int)(l:List Cell):Cell:=
 if op=3 then(if(bm l 0).known=true then fT (decide ((bm l 0).n=0)) else dK)
 else if(op=4∨op=5)∧(bm l 0=fT (decide (op=5))∨bm l 1=fT (decide (op=5))) then fT (decide (op=5))
 else if op=6 then(if(bm l 1).known=true∧bm l 1=bm l 2 then bm l 1 else dK)
 else if(bm l 0).known=false∨(bm l 1).known=false then dK
 else if op=4∨op=5 then fT (decide (op=4))
 else if op=7 then fT (decide ((bm l 0).n<(bm l 1).n)) else if op=8 then fT (decide ((bm l 0).n=(bm l 1).n)) else⟨true,vK op (bm l 0).n (bm l 1).n⟩
theorem ai8 (a b:Cell):a=b↔a.known=b.known∧a.n=b.n:=by cases a;cases b;simp
theorem aym (op:Int)(l:List Cell)(h1:1≤l.length)(h2:op≠3→2≤l.length)(h3:op=6→3≤l.length)
 (hb:9≤op→(-1099511627776≤(bm l 0).n∧(bm l 0).n≤1099511627776)∧(-1099511627776≤(bm l 1).n∧(bm l 1).n≤1099511627776)) (h9:op<3∨8<op→9≤op):
 ak T abo [.int op,cells l] (cF (fX op l)):=by
 refine .of_tree rfl aiu aAv ?_;have g0:0<l.length:=by omega
 have tE:l[0]=bm l 0:=by simp[bm,g0]
 simp[UH];unfold fX;by_cases o3:op=3
 ·simp[o3,g0,tE];cases e:(bm l 0).known
  ·simp
  ·simp[g0];refine⟨_,sN _,?_⟩;simp
 have g1:1<l.length:=by have:=h2 o3;omega
 have AJ:l[1]=bm l 1:=by simp[bm,g1]
 have eD:(1:Int)<l.length:=by omega
 simp[o3];have fin:∀a b:Cell,(a=b)=(a.known=b.known∧a.n=b.n):=fun a b=>propext (ai8 a b);rcases Classical.em (op=4) with o4|o4
 ·subst o4;simp;refine⟨_,sN _,?_⟩;simp[g0,g1,eD,tE,AJ,fin];split
  ·rfl
  ·split
   ·rfl
   ·refine⟨_,sN _,?_⟩;simp
 rcases Classical.em (op=5) with o5|o5
 ·subst o5;simp;refine⟨_,sN _,?_⟩;simp[g0,g1,eD,tE,AJ,fin];split
  ·rfl
  ·split
   ·rfl
   ·refine⟨_,sN _,?_⟩;simp
 rcases Classical.em (op=6) with o6|o6
 ·subst o6;have g2:2<l.length:=by have:=h3 rfl;omega
  have gg2:l[2]=bm l 2:=by simp[bm,g2]
  have mB:(2:Int)<l.length:=by omega
  simp[g1,g2,eD,mB,AJ,gg2,fin];cases e1:(bm l 1).known
  ·simp
  by_cases e2:(bm l 1).known=(bm l 2).known∧(bm l 1).n=(bm l 2).n
  ·rw[e1] at e2;simp[e1,e2]
  ·rw[e1] at e2;have rj:¬((bm l 2).known=true∧(bm l 1).n=(bm l 2).n):=fun h=>e2 ⟨h.1.symm,h.2⟩;simp only[e1,true_and,if_true]
   first|(rw[if_neg rj,if_neg rj])|(simp[rj])
 simp[o4,o5,o6,g0,g1,eD,tE,AJ];cases e1:(bm l 0).known
 ·simp
 cases e2:(bm l 1).known
 ·simp
 simp[g1,eD,AJ];rcases Classical.em (op=7) with o7|o7
 ·subst o7;simp;refine⟨_,sN _,?_⟩;simp
 rcases Classical.em (op=8) with o8|o8
 ·subst o8;simp;refine⟨_,sN _,?_⟩;simp
 simp[o7,o8];obtain⟨b1,b2⟩:=hb (h9 (by omega));refine⟨_,ayl op _ _ b1 b2,?_⟩;simp;rfl
end Rm
namespace Rm
open Go Go.Proofs Cx
def bE:Nat→List Cell→Tm→Cell
 |0,_,_=>dK
 |L+1,cs,t=>if t.op=0∨t.op=1 then⟨true,t.n⟩ else if t.op=2 then kA cs t.n else
   if t.op=6∧(bm (t.args.map (bE L cs)) 0).known=true then bm (t.args.map (bE L cs)) (2-(bm (t.args.map (bE L cs)) 0).n).toNat else fX t.op (t.args.map (bE L cs))
def dJ:Nat→List Cell→Tm→List Int
 |0,_,_=>[]
 |L+1,cs,t=>if t.op=0∨t.op=1 then[] else if t.op=2 then(if(kA cs t.n).known=true then[] else[t.n]) else
   if t.op=6∧(bm (t.args.map (bE L cs)) 0).known=true then(t.args.map (dJ L cs)).getD (2-(bm (t.args.map (bE L cs)) 0).n).toNat [] else
   if(fX t.op (t.args.map (bE L cs))).known=true then[] else(t.args.map (dJ L cs)).flatten
theorem FP (L:Nat)(cs:List Cell)(t:Tm):bE (L+1) cs t=if t.op=0∨t.op=1 then⟨true,t.n⟩ else if t.op=2 then kA cs t.n else
 if t.op=6∧(bm (t.args.map (bE L cs)) 0).known=true then bm (t.args.map (bE L cs)) (2-(bm (t.args.map (bE L cs)) 0).n).toNat else fX t.op (t.args.map (bE L cs)):=rfl
theorem Hk (L:Nat)(cs:List Cell)(t:Tm):dJ (L+1) cs t=if t.op=0∨t.op=1 then[] else if t.op=2 then(if(kA cs t.n).known=true then[] else[t.n]) else
 if t.op=6∧(bm (t.args.map (bE L cs)) 0).known=true then(t.args.map (dJ L cs)).getD (2-(bm (t.args.map (bE L cs)) 0).n).toNat [] else
 if(fX t.op (t.args.map (bE L cs))).known=true then[] else(t.args.map (dJ L cs)).flatten:=rfl
theorem MH {L:Nat}{t:Tm}{k:Int}(h:cd (L+1) t=(k,0)):(∀a,a∈t.args→(cd L a).2=0)∧uF t (t.args.map fun a=>(cd L a).1)=(k,0):=by
 rw[MG] at h;by_cases e:eQ t.args.length (fun k=>(cd L (t.args.getD k default)).2)=0
 ·rw[if_neg (by simpa using e)] at h;refine⟨fun a ha=>?_,h⟩;obtain⟨j,hj,rfl⟩:=List.getElem_of_mem ha;have:=WK.1 e j hj;simpa [hj] using this
 ·rw[if_pos e] at h;injection h with _ h
  exact absurd h e
inductive Node (ks:List Int) (t:Tm):Int→Prop where
 |int (h:t.op=0) (ha:t.args=[]) (hn:-1099511627776≤t.n∧t.n≤1099511627776):Node ks t 0
 |bool (h:t.op=1) (ha:t.args=[]) (hn:t.n=0∨t.n=1):Node ks t 1
 |var (h:t.op=2) (ha:t.args=[]) (hn:0≤t.n∧t.n≤19):Node ks t (ll t.n).1
 |not (h:t.op=3) (hk:ks=[1]):Node ks t 1
 |log (h:t.op=4∨t.op=5) (hk:ks=[1,1]):Node ks t 1
 |ite (k:Int) (h:t.op=6) (hk:ks=[1,k,k]):Node ks t k
 |less (h:t.op=7) (hk:ks=[0,0]):Node ks t 1
 |equal (k:Int) (h:t.op=8) (hk:ks=[k,k]):Node ks t 1
 |num (h:9≤t.op∧t.op≤13) (hk:ks=[0,0]):Node ks t 0
theorem aAX (v:Int):(ll v).1=0∨(ll v).1=1:=by
 unfold ll;repeat' split
 all_goals simp
theorem avp {t:Tm}{ks:List Int}{k:Int}(hl:ks.length=t.args.length)(gM:∀x,x∈ks→x=0∨x=1)(h:uF t ks=(k,0)):Node ks t k:=by
 unfold uF at h;split at h
 ·injection h with _ h;cases h
 rename_i bG;split at h
 ·rename_i h3;unfold BL at h;split at h
  ·injection h with _ h;cases h
  rename_i ha0;have ha:t.args=[]:=List.eq_nil_of_length_eq_zero (by omega);split at h
  ·rename_i h0;split at h
   ·injection h with _ h;cases h
   ·rename_i hc;injection h with h _
    subst h;refine .int h0 ha ?_;unfold nw at hc;omega
  split at h
  ·rename_i h0;split at h
   ·injection h with _ h;cases h
   ·rename_i hc;injection h with h _
    subst h;exact .bool h0 ha (by omega)
  split at h
  ·injection h with _ h;cases h
  ·rename_i g0 g1 hc;injection h with h _
   subst h;refine .var (by omega) ha ?_;unfold ll at hc;split at hc
   ·simp at hc
   ·omega
 rename_i h3;split at h
 ·injection h with _ h;cases h
 rename_i hlen;have mJ:ks.length=(ez t.op).1.length:=by
  refine Classical.byContradiction fun hh=>hlen (.inl hh)
 split at h
 ·injection h with _ h;cases h
 rename_i aA;have iM:∀j,j<(ez t.op).1.length→mQ (ez t.op).1 ks j=true:=vH.1 (by simpa using aA)
 have two:∀{n:Nat},ks.length=2→∃a b,ks=[a,b]:=fun h=>by
  match ks,h with
  |[a,b],_=>exact⟨a,b,rfl⟩
 by_cases o3:t.op=3
 ·have e:ez t.op=([1],1):=by simp[ez,o3]
  rw[e] at mJ iM h
  match ks,mJ with
  |[a],_=>
   have:=iM 0 (by simp);simp[mQ] at this;simp at h;subst h this;exact .not o3 rfl
 by_cases Hs:t.op=4∨t.op=5
 ·have e:ez t.op=([1,1],1):=by simp[ez,o3,Hs]
  rw[e] at mJ iM h
  match ks,mJ with
  |[a,b],_=>
   have t1:=iM 0 (by simp);have t2:=iM 1 (by simp);simp[mQ] at t1 t2;simp at h;subst h t1 t2;exact .log Hs rfl
 by_cases o6:t.op=6
 ·have e:ez t.op=([1,-1,-1],-1):=by simp[ez,o6]
  rw[e] at mJ iM h
  match ks,mJ,gM with
  |[a,b,c],_,gM=>
   have t1:=iM 0 (by simp);have t3:=iM 2 (by simp);have hb:=gM b (by simp);have oW:¬b=-1:=by omega
   simp[mQ] at t1;simp[mQ,lZ,oW] at t3;simp[lZ,oW] at h;subst h t1 t3;exact .ite _ o6 rfl
 by_cases o7:t.op=7
 ·have e:ez t.op=([0,0],1):=by simp[ez,o7]
  rw[e] at mJ iM h
  match ks,mJ with
  |[a,b],_=>
   have t1:=iM 0 (by simp);have t2:=iM 1 (by simp);simp[mQ] at t1 t2;simp at h;subst h t1 t2;exact .less o7 rfl
 by_cases o8:t.op=8
 ·have e:ez t.op=([-1,-1],1):=by simp[ez,o8]
  rw[e] at mJ iM h
  match ks,mJ,gM with
  |[a,b],_,gM=>
   have t2:=iM 1 (by simp);have ha:=gM a (by simp);have han:¬a=-1:=by omega
   simp[mQ,lZ,han] at t2;simp at h;subst h t2;exact .equal _ o8 rfl
 have e:ez t.op=([0,0],0):=by simp[ez,o3,Hs,o6,o7,o8]
 rw[e] at mJ iM h
 match ks,mJ with
 |[a,b],_=>
  have t1:=iM 0 (by simp);have t2:=iM 1 (by simp);simp[mQ] at t1 t2;simp at h;subst h t1 t2;exact .num (by omega) rfl
theorem MI:∀{L:Nat} {t:Tm} {k:Int},cd (L+1) t=(k,0)→Node (t.args.map fun a=>(cd L a).1) t k∧(k=0∨k=1)
 |L,t,k,h=>by
  obtain⟨h1,h2⟩:=MH h
  have gM:∀x,x∈(t.args.map fun a=>(cd L a).1)→x=0∨x=1:=by
   intro x hx;obtain⟨a,ha,rfl⟩:=List.mem_map.1 hx;cases L with
   |zero=>exact .inl rfl
   |succ L=>exact(MI (L:=L) (t:=a) (k:=(cd (L+1) a).1) (by rw[←h1 a ha])).2
  have hn:=avp (by simp) gM h2;refine⟨hn,?_⟩;cases hn with
  |int=>simp
  |bool=>simp
  |var=>exact aAX _
  |not=>simp
  |log=>simp
  |ite k _ hk=>exact gM k (by rw[hk];simp)
  |less=>simp
  |equal=>simp
  |num=>simp
end Rm
namespace Rm
open Go Go.Proofs Cx
def sW (k:Int)(c:Cell):Prop:=(c.known=false→c=dK)∧(c.known=true→(k=1→c.n=0∨c.n=1)∧(k=0→-1099511627776≤c.n∧c.n≤1099511627776))
theorem sD (k:Int):sW k dK:=⟨fun _=>rfl,fun h=>by cases h⟩
theorem yb (b:Bool):sW 1 (fT b):=⟨fun h=>(by cases b<;>cases h),fun _=>⟨fun _=>(by cases b<;>simp[fT]),fun h=>by cases h⟩⟩
theorem MN (n:Int):-1099511627776≤nw n∧nw n≤1099511627776:=by unfold nw;omega
theorem axH (cs:List Cell)(v:Int)(hv:0≤v∧v≤19):sW (ll v).1 (kA cs v):=by
 unfold kA;split
 ·exact sD _
 ·split
  ·rename_i h;rw[h];exact yb _
  ·rename_i h;refine⟨fun h=>(by cases h),fun _=>⟨fun h'=>absurd h' h,fun _=>MN _⟩⟩
theorem awE (a b:Int):-1099511627776≤xD a b∧xD a b≤1099511627776:=by
 unfold xD;have:=adC (a.natAbs*b.natAbs);split<;>omega
theorem ago (op a b:Int)(ha:-1099511627776≤a∧a≤1099511627776)(hb:-1099511627776≤b∧b≤1099511627776):-1099511627776≤vK op a b∧vK op a b≤1099511627776:=by
 unfold vK;split
 ·exact MN _
 split
 ·exact MN _
 split
 ·exact awE _ _
 split<;>omega
theorem auY {α β:Type}{f:α→β}{l:List α}{x:β}(h:l.map f=[x]):∃a,l=[a]∧f a=x:=by
 match l,h with
 |[a],h=>exact⟨a,rfl,by simpa using h⟩
theorem w7 {α β:Type}{f:α→β}{l:List α}{x y:β}(h:l.map f=[x,y]):∃a b,l=[a,b]∧f a=x∧f b=y:=by
 match l,h with
 |[a,b],h=>exact⟨a,b,rfl,by simpa using h⟩
theorem Pq {α β:Type}{f:α→β}{l:List α}{x y z:β}(h:l.map f=[x,y,z]):∃a b c,l=[a,b,c]∧f a=x∧f b=y∧f c=z:=by
 match l,h with
 |[a,b,c],h=>exact⟨a,b,c,rfl,by simpa using h⟩
theorem Wy:∀{L:Nat} {t:Tm} {k:Int} (cs:List Cell),cd L t=(k,0)→sW k (bE L cs t)
 |0,t,k,cs,h=>sD _
 |L+1,t,k,cs,h=>by
  obtain⟨hn,hk⟩:=MI h;obtain⟨ha,_⟩:=MH h;have ih:∀a,a∈t.args→sW (cd L a).1 (bE L cs a):=fun a hm=>Wy cs (show cd L a=((cd L a).1,0) by rw[←ha a hm]);rw[FP];cases hn with
  |int h0 ha hn=>rw[if_pos (.inl h0)];exact⟨fun h=>(by cases h),fun _=>⟨fun h=>(by cases h),fun _=>hn⟩⟩
  |bool h0 ha hn=>rw[if_pos (.inr h0)];exact⟨fun h=>(by cases h),fun _=>⟨fun _=>hn,fun h=>by cases h⟩⟩
  |var h0 ha hn=>rw[if_neg (by omega),if_pos h0];exact axH cs _ hn
  |not h0 hk=>
   rw[if_neg (by omega),if_neg (by omega),if_neg (by omega)];unfold fX;rw[if_pos h0];split
   ·exact yb _
   ·exact sD _
  |log h0 hk=>
   rw[if_neg (by omega),if_neg (by omega),if_neg (by omega)];unfold fX;rw[if_neg (by omega)];split
   ·exact yb _
   rw[if_neg (by omega)];split
   ·exact sD _
   exact yb _
  |ite k h0 cq=>
   obtain⟨a,b,c,hl,e1,e2,e3⟩:=Pq cq;rw[hl] at ih ⊢;have r1:=ih a (by simp);have r2:=ih b (by simp);have r3:=ih c (by simp);rw[e1] at r1;rw[e2] at r2;rw[e3] at r3;rw[if_neg (by omega),if_neg (by omega)];simp only[List.map_cons,List.map_nil,bm,List.getD_cons_zero];split
   ·rename_i hh;rcases(r1.2 hh.2).1 rfl with h1|h1<;>rw[h1]
    ·exact r3
    ·exact r2
   ·unfold fX;rw[if_neg (by omega),if_neg (by omega),if_pos h0];simp only[bm,List.getD_cons_zero,List.getD_cons_succ];split
    ·exact r2
    ·exact sD _
  |less h0 hk=>
   rw[if_neg (by omega),if_neg (by omega),if_neg (by omega)];unfold fX;rw[if_neg (by omega),if_neg (by omega),if_neg (by omega)];split
   ·exact sD _
   repeat' split
   all_goals exact yb _
  |equal k h0 hk=>
   rw[if_neg (by omega),if_neg (by omega),if_neg (by omega)];unfold fX;rw[if_neg (by omega),if_neg (by omega),if_neg (by omega)];split
   ·exact sD _
   repeat' split
   all_goals exact yb _
  |num h0 cq=>
   obtain⟨a,b,hl,e1,e2⟩:=w7 cq;rw[hl] at ih ⊢;have r1:=ih a (by simp);have r2:=ih b (by simp);rw[e1] at r1;rw[e2] at r2;rw[if_neg (by omega),if_neg (by omega),if_neg (by omega)];unfold fX;rw[if_neg (by omega),if_neg (by omega),if_neg (by omega)];simp only[List.map_cons,List.map_nil,bm,List.getD_cons_zero,List.getD_cons_succ];split
   ·exact sD _
   rename_i nJ;rw[if_neg (by omega),if_neg (by omega),if_neg (by omega)];have k1:(bE L cs a).known=true:=by
    cases e:(bE L cs a).known with
    |true=>rfl
    |false=>exact absurd (.inl e) nJ
   have k2:(bE L cs b).known=true:=by
    cases e:(bE L cs b).known with
    |true=>rfl
    |false=>exact absurd (.inr e) nJ
   exact⟨fun h=>(by cases h),fun _=>⟨fun h=>(by cases h),fun _=>ago _ _ _ ((r1.2 k1).2 rfl) ((r2.2 k2).2 rfl)⟩⟩
theorem abA:∀(L:Nat) (cs:List Cell) (t:Tm),cw L t≤60→((dJ L cs t).length:Int)≤cw L t
 |0,cs,t,h=>by simp[cw] at h
 |L+1,cs,t,h=>by
  have h1:=uD (L+1) t;obtain⟨hl,hp⟩:=Ps h;have hs:∀(l:List Tm) (n:Int),(∀a,a∈l→cw L a≤60)→eX (cw L) l n≤60→((l.map (dJ L cs)).flatten.length:Int)+n≤eX (cw L) l n∧∀j,(((l.map (dJ L cs)).getD j []).length:Int)+n≤eX (cw L) l n:=by
   intro l
   induction l with
   |nil=>intro n _ _;simp[eX]
   |cons a l ih=>
    intro n hp hm;have ha:=abA L cs a (hp a (by simp));unfold eX at hm ⊢;split at hm
    ·omega
    ·rename_i h60;rw[if_neg h60];obtain⟨i1,i2⟩:=ih (n+cw L a) (fun b hb=>hp b (by simp[hb])) hm;refine⟨by rw[List.map_cons,List.flatten_cons,List.length_append];omega,fun j=>?_⟩;cases j with
     |zero=>simp;omega
     |succ j=>have:=i2 j;simp at this ⊢;omega
  obtain⟨hs1,dF⟩:=hs t.args 1 hp h;rw[Hk];split
  ·simp;omega
  split
  ·split<;>simp<;>omega
  split
  ·have:=dF (2-(bm (t.args.map (bE L cs)) 0).n).toNat;show _≤eX _ _ _;omega
  split
  ·simp;omega
  ·show _≤eX _ _ _;omega
@[simp] theorem aH2 (x y:List Int):sL (ints x) 0 (ints y)=ints y:=_root_.id rfl
@[simp] theorem ax9 (x y:Cell):sL (cF x) 0 (cF y)=cF y:=_root_.id rfl
@[simp] theorem aGo (a b:List Int):D.list (a.map D.int++b.map D.int)=ints (a++b):=by simp[ints]
def lists (l:List (List Int)):D:=.list (l.map ints)
@[simp] theorem aGB (l:List (List Int)):(lists l).l=l.map ints:=_root_.id rfl
theorem afK (l:List (List Int))(hl:l.length≤1000)(hs:l.flatten.length≤1000000):ak T aa5 [lists l] (ints l.flatten):=by
 refine .of_tree rfl ah8 aAa ?_;simp[Ul];have hb:∀k,(l.take k).flatten.length≤l.flatten.length:=by
  intro k
  conv=>rhs;rw[←List.take_append_drop k l]
  rw[List.flatten_append,List.length_append];omega
 have bt:∀k (hk:k<l.length),(l.take (k+1)).flatten=(l.take k).flatten++l[k]:=fun k hk=>by
  rw[List.take_succ_eq_append_getElem hk,List.flatten_append];simp
 refine aO.forRounds l.length (fun k=>[.int ((l.take k).flatten.length:Nat),.int k]) (fun k=>[]) ?_ (fun k hk=>?_) ?_
 ·simp
 ·have hw:=bl hk (by omega);have h1:=bt k hk;have h2:=hb (k+1);rw[h1] at h2 ⊢;rw[List.length_append] at h2 ⊢;generalize (l.take k).flatten.length=m at*;have qz:IntKind.i64.wrap ((m:Int)+(l[k].length:Int))=(m:Int)+l[k].length:=bD (by omega);have Bi:¬((m:Int)+l[k].length<0):=by omega
  simp[aeu,KS,hk,hw,qz,Bi]
 ·simp[aeu,KS];have XJ:ak T 266 [.list [],.int (l.flatten.length:Nat)] (.list []):=by
   refine .of_ext (g:=fun _ ds=>FZ ds) rfl ⟨0,fun _ _=>?_⟩;show(if(0:Int)≤(l.flatten.length:Nat)∧((l.flatten.length:Nat):Int)≤4294967296 then some (D.list []) else none)=some (D.list []);rw[if_pos (by omega)]
  rw[List.length_flatten] at XJ;refine⟨_,XJ,?_⟩;refine aO.forRounds l.length (fun k=>[.none,.int k]) (fun k=>[ints (l.take k).flatten]) ?_ (fun k hk=>?_) ?_
  ·simp[ints]
  ·have hw:=bl hk (by omega);have h1:=bt k hk;have h2:=hb (k+1);rw[h1] at h2 ⊢;rw[List.length_append] at h2;generalize (l.take k).flatten=m at*;simp[aev,KT,hk,hw];omega
  ·simp[aev,KT]
theorem alN {op:Int}{l:List Cell}(h:(fX op l).known=false):fX op l=dK:=by
 have hy:∀b,(fT b).known=true:=fun b=>by cases b<;>simp[fT]
 unfold fX at h ⊢;split<;>rename_i c1
 ·rw[if_pos c1] at h;split<;>rename_i c2
  ·rw[if_pos c2,hy] at h;cases h
  ·rfl
 rw[if_neg c1] at h;split<;>rename_i c2
 ·rw[if_pos c2,hy] at h;cases h
 rw[if_neg c2] at h;split<;>rename_i c3
 ·rw[if_pos c3] at h;split<;>rename_i c4
  ·rw[if_pos c4,c4.1] at h;cases h
  ·rfl
 rw[if_neg c3] at h;split<;>rename_i c4
 ·rfl
 rw[if_neg c4] at h
 repeat' split at h
 all_goals first|(rw[hy] at h;cases h)|cases h
theorem afj:∀(L:Nat) (cs:List Cell) (t:Tm) (k:Int),t.OK→cw L t≤60→cd L t=(k,0)→ak T PQ [M0 cs,dt t] (.tup [cF (bE L cs t),ints (dJ L cs t)])
 |0,cs,t,k,ht,hm,hc=>by simp[cw] at hm
 |L+1,cs,t,k,ht,hm,hc=>by
  refine .of_tree rfl aix aAy ?_;obtain⟨hl,hp⟩:=Ps hm;obtain⟨ha,_⟩:=MH hc;obtain⟨hn,aFZ⟩:=MI hc;have gA:∀a,a∈t.args→ak T PQ [M0 cs,dt a] (.tup [cF (bE L cs a),ints (dJ L cs a)]):=fun a dC=>afj L cs a (cd L a).1 (ht.arg dC) (hp a dC) (by rw[←ha a dC]);have rM:∀a,a∈t.args→sW (cd L a).1 (bE L cs a):=fun a dC=>Wy cs (show cd L a=((cd L a).1,0) by rw[←ha a dC]);have Oc:∀a,a∈t.args→(dJ L cs a).length≤60:=fun a dC=>by have:=abA L cs a (hp a dC);have:=hp a dC;omega
  by_cases gM:t.op=0∨t.op=1
  ·
   have e1:bE (L+1) cs t=⟨true,t.n⟩:=by rw[FP,if_pos gM]
   have e2:dJ (L+1) cs t=[]:=by rw[Hk,if_pos gM]
   rw[e1,e2];rcases gM with h|h<;>simp[DF,h]<;>exact⟨rfl,rfl⟩
  have o0:t.op≠0:=fun h=>gM (.inl h);have o1:t.op≠1:=fun h=>gM (.inr h);by_cases o2:t.op=2
  ·have hv:0≤t.n:=by
    cases hn with
    |var h0 ha hn=>exact hn.1
    |_=>omega
   have e1:bE (L+1) cs t=kA cs t.n:=by rw[FP,if_neg gM,if_pos o2]
   have e2:dJ (L+1) cs t=if(kA cs t.n).known=true then[] else[t.n]:=by rw[Hk,if_neg gM,if_pos o2]
   rw[e1,e2];simp[DF,o2];refine⟨_,ayq cs t.n hv,?_⟩;cases e:(kA cs t.n).known
   ·have:kA cs t.n=dK:=by
     unfold kA at e ⊢;split
     ·rfl
     ·rename_i h;rw[if_neg h] at e;split at e
      ·cases hb:decide ((cellAt cs t.n).n≠0)<;>rw[hb] at e<;>cases e
      ·cases e
    rw[this];simp[ints]
   ·have h:kA cs t.n=⟨true,(kA cs t.n).n⟩:=by rw[←e]
    rw[h];simp[ints]
    try rfl
  have hlen:1≤t.args.length∧(t.op≠3→2≤t.args.length)∧(t.op=6→3≤t.args.length):=by
   cases hn with
   |int h0 ha hn=>omega
   |bool h0 ha hn=>omega
   |var h0 ha hn=>omega
   |not h0 hk=>obtain⟨a,hl,_⟩:=auY hk;rw[hl];simp;omega
   |log h0 hk=>obtain⟨a,b,hl,_⟩:=w7 hk;rw[hl];simp;omega
   |ite k h0 hk=>obtain⟨a,b,c,hl,_⟩:=Pq hk;rw[hl];simp
   |less h0 hk=>obtain⟨a,b,hl,_⟩:=w7 hk;rw[hl];simp;omega
   |equal k h0 hk=>obtain⟨a,b,hl,_⟩:=w7 hk;rw[hl];simp;omega
   |num h0 hk=>obtain⟨a,b,hl,_⟩:=w7 hk;rw[hl];simp;omega
  have hb9:9≤t.op→(-1099511627776≤(bm (t.args.map (bE L cs)) 0).n∧(bm (t.args.map (bE L cs)) 0).n≤1099511627776)∧(-1099511627776≤(bm (t.args.map (bE L cs)) 1).n∧(bm (t.args.map (bE L cs)) 1).n≤1099511627776):=by
   intro h9;have rb:∀c:Cell,sW 0 c→-1099511627776≤c.n∧c.n≤1099511627776:=by
    intro c hr;cases e:c.known with
    |false=>rw[hr.1 e];simp
    |true=>exact(hr.2 e).2 rfl
   cases hn with
   |num h0 hk=>
    obtain⟨a,b,hl,ea,eb⟩:=w7 hk;rw[hl] at rM ⊢;have r1:=rM a (by simp);have r2:=rM b (by simp);rw[ea] at r1;rw[eb] at r2;exact⟨rb _ r1,rb _ r2⟩
   |log h0 hk=>omega
   |_=>omega
  have h6:t.op=6→(bm (t.args.map (bE L cs)) 0).known=true→(bm (t.args.map (bE L cs)) 0).n=0∨(bm (t.args.map (bE L cs)) 0).n=1:=by
   intro o6 nJ;cases hn with
   |ite k h0 hk=>
    obtain⟨a,b,c,hl,ea,_⟩:=Pq hk;rw[hl] at rM nJ ⊢;have r1:=rM a (by simp);rw[ea] at r1;exact(r1.2 nJ).1 rfl
   |log h0 hk=>omega
   |num h0 hk=>omega
   |_=>omega
  have bG:t.op<3∨8<t.op→9≤t.op:=by
   cases hn with
   |log h0 hk=>omega
   |num h0 hk=>omega
   |_=>omega
  have e1:bE (L+1) cs t=if t.op=6∧(bm (t.args.map (bE L cs)) 0).known=true then bm (t.args.map (bE L cs)) (2-(bm (t.args.map (bE L cs)) 0).n).toNat else fX t.op (t.args.map (bE L cs)):=by
   rw[FP,if_neg gM,if_neg o2]
  have e2:dJ (L+1) cs t=if t.op=6∧(bm (t.args.map (bE L cs)) 0).known=true then(t.args.map (dJ L cs)).getD (2-(bm (t.args.map (bE L cs)) 0).n).toNat [] else if(fX t.op (t.args.map (bE L cs))).known=true then[] else(t.args.map (dJ L cs)).flatten:=by
   rw[Hk,if_neg gM,if_neg o2]
  rw[e1,e2];simp[DF,o0,o1,o2];refine⟨by omega,?_⟩;refine aO.forRounds t.args.length (fun k=>[.int k]) (fun k=>[cells ((t.args.map (bE L cs)).take k++List.replicate (t.args.length-k) dK),lists ((t.args.map (dJ L cs)).take k++List.replicate (t.args.length-k) [])]) ?_ (fun k hk=>?_) ?_
  ·simp[cells,lists,ints]
  ·have hw:=bl hk (by omega);have cJ:=List.getElem_mem hk;have hr:=gA _ cJ;have s1:=Sk (t.args.map (bE L cs)) dK (n:=t.args.length) (by simp) hk;have s2:=Sk (t.args.map (dJ L cs)) [] (n:=t.args.length) (by simp) hk;rw[←s1,←s2];have l1:((t.args.map (bE L cs)).take k++List.replicate (t.args.length-k) dK).length=t.args.length:=by simp;omega
   have l2:((t.args.map (dJ L cs)).take k++List.replicate (t.args.length-k) []).length=t.args.length:=by simp;omega
   have g1:(t.args.map (bE L cs))[k]'(by simpa using hk)=bE L cs t.args[k]:=by simp
   have g2:(t.args.map (dJ L cs))[k]'(by simpa using hk)=dJ L cs t.args[k]:=by simp
   rw[g1,g2];generalize (t.args.map (bE L cs)).take k++List.replicate (t.args.length-k) dK=A at*;generalize (t.args.map (dJ L cs)).take k++List.replicate (t.args.length-k) []=B at*;generalize bE L cs t.args[k]=c at*;generalize dJ L cs t.args[k]=d at*;simp[R2,Dh,hk];refine⟨_,hr,?_⟩;simp[hw,hk,l1,l2,cells,lists]
  ·have hA:(t.args.map (bE L cs)).take t.args.length++List.replicate (t.args.length-t.args.length) dK=t.args.map (bE L cs):=by rw[Nat.sub_self,List.replicate_zero,List.append_nil,List.take_of_length_le (by simp)]
   have hB:(t.args.map (dJ L cs)).take t.args.length++List.replicate (t.args.length-t.args.length) []=t.args.map (dJ L cs):=by rw[Nat.sub_self,List.replicate_zero,List.append_nil,List.take_of_length_le (by simp)]
   have lA:(t.args.map (bE L cs)).length=t.args.length:=by simp
   have lB:(t.args.map (dJ L cs)).length=t.args.length:=by simp
   have jI:∀l:List Tm,(∀a,a∈l→a∈t.args)→((l.map (dJ L cs)).flatten.length≤l.length*60):=by
    intro l
    induction l with
    |nil=>intro _;simp
    |cons a l ih=>
     intro h;have h1:=Oc a (h a (by simp));have h2:=ih (fun b hb=>h b (by simp[hb]));rw[List.map_cons,List.flatten_cons,List.length_append,List.length_cons];omega
   have jI:=jI t.args (fun a h=>h);have hBg:∀m:Nat,(Option.map (dJ L cs) t.args[m]?).getD []=(t.args.map (dJ L cs)).getD m []:=fun m=>by simp[List.getD_eq_getElem?_getD]
   rw[hA,hB];generalize t.args.map (bE L cs)=A at*;generalize t.args.map (dJ L cs)=B at*;have g0:0<A.length:=by omega
   have tE:A[0]=bm A 0:=by simp[bm,g0]
   by_cases F7:t.op=6∧(bm A 0).known=true
   ·obtain⟨o6,kn⟩:=F7;have hv:=h6 o6 kn;have hw:IntKind.i64.wrap (2-(bm A 0).n)=2-(bm A 0).n:=bD (by omega);have h3:3≤t.args.length:=hlen.2.2 o6;rw[if_pos ⟨o6,kn⟩,if_pos ⟨o6,kn⟩];obtain⟨m,dC⟩:∃m:Nat,m=(2-(bm A 0).n).toNat:=⟨_,rfl⟩
    have Bf:m<A.length:=by omega
    have N0:m<B.length:=by omega
    simp[R2,Dh,o6,kn,g0,tE,hw,←dC,Bf,N0,cells,lists];refine⟨by omega,by omega,by simp[bm,Bf],?_⟩;rw[hBg,List.getD_eq_getElem?_getD,List.getElem?_eq_getElem N0];rfl
   ·rw[if_neg F7,if_neg F7];have aqY:=aym t.op A (by omega) (by omega) (by omega) hb9 bG;have aq0:=afK B (by omega) (by omega);simp[R2,Dh,g0,tE];rw[if_neg F7];refine⟨_,aqY,?_⟩;cases e:(fX t.op A).known
    ·have dy:fX t.op A=dK:=alN e;rw[dy];simp;exact aq0
    ·have h:fX t.op A=⟨true,(fX t.op A).n⟩:=by rw[←e]
     rw[h];simp[ints]
     try rfl
end Rm
namespace Rm
open Go Go.Proofs Cx
def lY (n:Nat)(g:Nat→Bool):Int:=if(List.range n).findIdx g<n then((List.range n).findIdx g:Nat) else-1
theorem BJ (n:Nat)(g:Nat→Bool):(lY n g=-1∧∀k,k<n→g k=false)∨∃k:Nat,k<n∧lY n g=k∧g k=true∧∀i,i<k→g i=false:=by
 unfold lY;split
 ·rename_i h;refine .inr ⟨_,h,rfl,?_,fun i hi=>?_⟩
  ·have:=List.findIdx_getElem (p:=g) (xs:=List.range n) (w:=by simpa using h);simpa using this
  ·have:=List.not_of_lt_findIdx (p:=g) (xs:=List.range n) hi;simpa using this
 ·rename_i h;refine .inl ⟨rfl,fun k hk=>?_⟩;have:=List.not_of_lt_findIdx (p:=g) (xs:=List.range n) (i:=k) (by omega);simpa using this
theorem O8 {n:Nat}{g:Nat→Bool}(h:∀k,k<n→g k=false):lY n g=-1:=by
 rcases BJ n g with⟨h1,_⟩|⟨k,hk,_,h2,_⟩
 ·exact h1
 ·rw[h k hk] at h2;cases h2
theorem O9 {n k:Nat}{g:Nat→Bool}(hk:k<n)(h:g k=true)(hj:∀i,i<k→g i=false):lY n g=k:=by
 rcases BJ n g with⟨_,h1⟩|⟨m,hm,h1,h2,h3⟩
 ·rw[h1 k hk] at h;cases h
 ·rcases Nat.lt_trichotomy m k with h4|h4|h4
  ·rw[hj m h4] at h2;cases h2
  ·rw[h1,h4]
  ·rw[h3 k h4] at h;cases h
theorem YL (n:Nat)(g:Nat→Bool):decide (0≤lY n g)=(List.range n).any g:=by
 rcases BJ n g with⟨h1,h2⟩|⟨m,hm,h1,h2,h3⟩
 ·rw[h1]
  symm
  simp;exact h2
 ·rw[h1];simp;exact⟨m,hm,h2⟩
theorem afT (l:List Rule)(f:Nat)(caps:List D)(g:Nat→Bool)(hg:∀k (hk:k<l.length),ak T f (qh l[k]::caps) (.bool (g k)))(hl:l.length≤4294967296):
 ak T abb [rules l,.clo f caps] (.int (lY l.length g)):=by
 refine .of_tree rfl aie aAg ?_;simp[Ur];refine .scan l.length (fun k=>g k=false) (fun k=>[.int 0,.int k]) (fun _=>[]) ?_ (fun k hk hj ho=>?_) (fun k hk hj ho=>?_) (fun hj=>?_)
 ·simp
 ·have hw:=bl hk hl;simp[RW,Db,hk,hw];refine⟨_,_,⟨rfl,rfl⟩,_,hg k hk,?_⟩;simp[ho,hw]
 ·have he:=O9 hk (by simpa using ho) hj;simp[RW,Db,hk,he];refine⟨_,_,⟨rfl,rfl⟩,_,hg k hk,?_⟩;simp[ho]
 ·have he:=O8 hj;simp[RW,Db,he]
theorem afU (l:List Int)(f:Nat)(caps:List D)(g:Nat→Bool)(hg:∀k (hk:k<l.length),ak T f (.int l[k]::caps) (.bool (g k)))(hl:l.length≤4294967296):
 ak T abc [ints l,.clo f caps] (.int (lY l.length g)):=by
 refine .of_tree rfl aif aAh ?_;simp[Us];refine .scan l.length (fun k=>g k=false) (fun k=>[.int 0,.int k]) (fun _=>[]) ?_ (fun k hk hj ho=>?_) (fun k hk hj ho=>?_) (fun hj=>?_)
 ·simp
 ·have hw:=bl hk hl;simp[RX,Dc,hk,hw,ints];refine⟨_,_,⟨rfl,rfl⟩,_,hg k hk,?_⟩;simp[ho,hw]
 ·have he:=O9 hk (by simpa using ho) hj;simp[RX,Dc,hk,he,ints];refine⟨_,_,⟨rfl,rfl⟩,_,hg k hk,?_⟩;simp[ho]
 ·have he:=O8 hj;simp[RX,Dc,he,ints]
theorem afS (l:List Alter)(f:Nat)(caps:List D)(g:Nat→Bool)(hg:∀k (hk:k<l.length),ak T f (nA l[k]::caps) (.bool (g k)))(hl:l.length≤4294967296):
 ak T aba [alters l,.clo f caps] (.int (lY l.length g)):=by
 refine .of_tree rfl aid aAf ?_;simp[Uq];refine .scan l.length (fun k=>g k=false) (fun k=>[.int 0,.int k]) (fun _=>[]) ?_ (fun k hk hj ho=>?_) (fun k hk hj ho=>?_) (fun hj=>?_)
 ·simp
 ·have hw:=bl hk hl;simp[RV,Da,hk,hw];refine⟨_,_,⟨rfl,rfl⟩,_,hg k hk,?_⟩;simp[ho,hw]
 ·have he:=O9 hk (by simpa using ho) hj;simp[RV,Da,hk,he];refine⟨_,_,⟨rfl,rfl⟩,_,hg k hk,?_⟩;simp[ho]
 ·have he:=O8 hj;simp[RV,Da,he]
theorem afM (l:List Int)(f:Nat)(caps:List D)(g:Nat→Bool)(hg:∀k (hk:k<l.length),ak T f (.int l[k]::caps) (.bool (g k)))(hl:l.length≤4294967296):
 ak T aa7 [ints l,.clo f caps] (.bool ((List.range l.length).any g)):=by
 refine .of_tree rfl aia aAc ?_;simp[Un];refine⟨_,afU l f caps g hg hl,?_⟩;have:=YL l.length g;simp[←this]
theorem afL (l:List Alter)(f:Nat)(caps:List D)(g:Nat→Bool)(hg:∀k (hk:k<l.length),ak T f (nA l[k]::caps) (.bool (g k)))(hl:l.length≤4294967296):
 ak T aa6 [alters l,.clo f caps] (.bool ((List.range l.length).any g)):=by
 refine .of_tree rfl ah9 aAb ?_;simp[Um];refine⟨_,afS l f caps g hg hl,?_⟩;have:=YL l.length g;simp[←this]
def vY (cs:List Cell)(t:Tm):Cell:=if(mq t).2=0 then bE 8 cs t else dK
theorem alD {t:Tm}(h:(mq t).2=0):cw 8 t≤60∧cd 8 t=((mq t).1,0):=by
 unfold mq at h ⊢;split at h
 ·cases h
 ·rename_i hm;rw[if_neg hm];exact⟨by omega,by rw[←h]⟩
theorem ayk (t:Tm)(cs:List Cell)(ht:t.OK):ak T abk [dt t,cells cs] (cF (vY cs t)):=by
 refine .of_tree rfl aiq aAr ?_;simp[UD,vY];refine⟨_,afh t ht,?_⟩;by_cases h:(mq t).2=0
 ·obtain⟨h1,h2⟩:=alD h;simp[h];refine⟨_,afj 8 cs t _ ht h1 h2,?_⟩;simp
  try rfl
 ·simp[h]
  try rfl
def PW:List Int:=[6,7,10,12,13,14,15,16,20,21]
def lj (ask:Int):Int×Bool:=if ask<0∨22≤ask then(0,false) else if hasB PW ask then(0,true) else(1,true)
theorem Qz (ask:Int):ak T aak [.int ask] (.tup [.int (lj ask).1,.bool (lj ask).2]):=by
 refine .of_tree rfl ahe azh ?_;simp[Tq,lj];by_cases h0:ask<0
 ·simp[h0]
 by_cases h1:22≤ask
 ·simp[h0,h1]
 simp[h0,h1];refine⟨_,pW PW ask (by decide),?_⟩;cases h:hasB PW ask<;>simp[h]
def Hm:Tm:=⟨0,0,[]⟩
def sE (o:Order)(ask:Int)(k:Nat):Bool:=decide ((o.rules.getD k default).ask=ask)
def Dr (o:Order)(i:Int):Tm:=(o.rules.getD i.toNat default).term
def findF (o:Order)(ask:Int):Tm×Int:=
 if(lj ask).2=false then(Hm,1) else if lY o.rules.length (sE o ask)<0 then(Hm,4) else
    if(mq (Dr o (lY o.rules.length (sE o ask)))).2≠0∨(mq (Dr o (lY o.rules.length (sE o ask)))).1≠(lj ask).1 then(Hm,11) else(Dr o (lY o.rules.length (sE o ask)),0)
theorem aeS {o:Order}(ho:o.OK){m:Nat}(hm:m<o.rules.length):o.rules[m].term.OK:=(ho.2.2 _ (List.getElem_mem hm)).2
theorem PV:Hm.OK:=by
 exact .mk 0 0 [] (by unfold aX;omega) (by unfold aX;omega) (by decide) (fun _ h=>by cases h)
theorem anr {o:Order}(ho:o.OK)(ask:Int):(findF o ask).1.OK:=by
 unfold findF;split
 ·exact PV
 split
 ·exact PV
 split
 ·exact PV
 ·rename_i h _;rcases BJ o.rules.length (sE o ask) with⟨h1,h2⟩|⟨m,hm,h1,h2,h3⟩
  ·exact absurd (by rw[h1];decide) h
  ·rw[h1];simp[Dr,hm];exact aeS ho hm
theorem anp (r:Rule)(ask:Int):ak T PG [qh r,.ref (.int ask)] (.bool (decide (r.ask=ask))):=by
 refine .of_tree rfl ahg azi ?_;simp[Ts]
theorem awd (o:Order)(ask:Int)(ho:o.OK)(hl:o.rules.length≤4294967296):ak T aal [ix o,.int ask] (.tup [dt (findF o ask).1,.int (findF o ask).2]):=by
 refine .of_tree rfl ahf azj ?_;simp[Tr,findF];refine⟨_,Qz ask,?_⟩;cases h0:(lj ask).2
 ·simp[h0]
  try rfl
 simp[h0];refine⟨_,afT o.rules PG [.ref (.int ask)] (sE o ask) (fun k hk=>by simpa [sE,hk] using anp o.rules[k] ask) hl,?_⟩;rcases BJ o.rules.length (sE o ask) with⟨h1,h2⟩|⟨m,hm,h1,h2,h3⟩
 ·rw[h1];simp
  try rfl
 ·rw[h1];have Bi:¬((m:Int)<0):=by omega
  have htm:o.rules[m].term.OK:=aeS ho hm;simp[hm,Dr,Bi];refine⟨_,afh _ htm,?_⟩;by_cases h4:(mq o.rules[m].term).2=0<;>by_cases h5:(mq o.rules[m].term).1=(lj ask).1<;>simp[h4,h5]<;>try rfl
def oK (o:Order)(ask:Int)(cs:List Cell):Cell×Int:=
 if(findF o ask).2≠0 then(dK,(findF o ask).2) else
    (if(lj ask).1=0∧(vY cs (findF o ask).1).known=true then⟨true,min (max (vY cs (findF o ask).1).n 0) 20000⟩ else vY cs (findF o ask).1,0)
theorem awb (o:Order)(ask:Int)(cs:List Cell)(ho:o.OK)(hl:o.rules.length≤4294967296):ak T aaj [ix o,.int ask,cells cs] (.tup [cF (oK o ask cs).1,.int (oK o ask cs).2]):=by
 refine .of_tree rfl ahd azg ?_;simp[Tp];refine⟨_,awd o ask ho hl,?_⟩;have hf:(findF o ask).1.OK:=anr ho ask;by_cases h:(findF o ask).2=0
 ·simp[h,oK];refine⟨_,ayk _ cs hf,_,Qz ask,?_⟩;generalize vY cs (findF o ask).1=c;obtain⟨kn,n⟩:=c;by_cases h1:(lj ask).1=0
  ·cases kn
   ·simp[h1,cF]
   ·by_cases h2:n<0
    ·have:min (max n 0) 20000=0:=by omega
     simp[h1,cF,h2,this];rfl
    ·by_cases h3:20000<n
     ·have:min (max n 0) 20000=20000:=by omega
      simp[h1,cF,h2,h3,this];rfl
     ·have:min (max n 0) 20000=n:=by omega
      simp[h1,cF,h2,h3,this];rfl
  ·simp[h1,cF]
 ·simp[h,oK]
  try rfl
end Rm
namespace Rm
open Go Go.Proofs Cx
theorem aeD (b:Bool):ak T aa3 [.bool b] (cF (fT b)):=by
 refine .of_tree rfl ah5 az8 ?_;cases b<;>simp[Uj,fT]<;>rfl
def qk (kind sign:Int)(x:Fact):Bool:=decide (x.kind=kind)&&decide (x.at_=sign)
def fK (f:File)(kind sign:Int):Cell:=match f.facts.find? (qk kind sign) with|none=>dK|some x=>fT (decide (x.n≠0))
theorem tD {α:Type}{p:α→Bool}:∀{l:List α} {k:Nat} (hk:k<l.length),p l[k]=true→(∀j (hj:j<k),p (l[j]'(by omega))=false)→l.find? p=some l[k]
 |a::l,0,hk,h,hj=>by simp at h;simp[h]
 |a::l,k+1,hk,h,hj=>by
  have h0:=hj 0 (by omega);simp at h0;simp only[List.find?_cons,h0,List.getElem_cons_succ];exact tD (by simpa using hk) (by simpa using h) (fun j bB=>by simpa using hj (j+1) (by omega))
theorem v3 {α:Type}{p:α→Bool}{l:List α}(h:∀j (hj:j<l.length),p l[j]=false):l.find? p=none:=by
 rw[List.find?_eq_none];intro x hx;obtain⟨j,hj,rfl⟩:=List.getElem_of_mem hx;rw[h j hj];decide
theorem Dl (f:File)(kind sign:Int)(hl:f.facts.length≤4294967296):ak T aaZ [cD f,.int kind,.int sign] (cF (fK f kind sign)):=by
 refine .of_tree rfl ah1 az4 ?_;simp[Ug];refine .scan f.facts.length (fun k=>qk kind sign (f.facts.getD k default)=false) (fun k=>[.int k]) (fun _=>[cF dK]) ?_ (fun k hk hj ho=>?_) (fun k hk hj ho=>?_) (fun hj=>?_)
 ·simp
 ·have hw:=bl hk hl;simp[hk,qk] at ho;by_cases h1:f.facts[k].kind=kind<;>by_cases h2:f.facts[k].at_=sign
  ·exact absurd h2 (ho h1)
  all_goals simp[RR,C7,hk,hw,h1,h2]
 ·have hw:=bl hk hl;have hf:fK f kind sign=fT (decide (f.facts[k].n≠0)):=by
   unfold fK;rw[tD hk (by simpa [hk] using ho) (fun j bB=>by have:=hj j bB;simpa [show j<f.facts.length by omega] using this)]
  simp[hk,qk] at ho;simp[RR,C7,hk,hw,ho,hf];refine⟨_,aeD _,?_⟩;simp
  try rfl
 ·have hf:fK f kind sign=dK:=by
   unfold fK;rw[v3 (fun j bB=>by have:=hj j bB;simpa [bB] using this)]
  simp[RR,C7,hf]
  try rfl
def fj (r:Realm)(c:Int):Int:=if aw c r.cities.length=true then(r.cities.getD c.toNat default).order else-1
theorem ou (r:Realm)(c:Int):ak T aaN [aZ r,.int c] (.int (fj r c)):=by
 refine .of_tree rfl ahP azS ?_;simp[T4,fj];refine⟨_,fa c r.cities.length,?_⟩;cases h:aw c r.cities.length
 ·simp[h]
 ·simp[aw] at h;have h1:c.toNat<r.cities.length:=by omega
  simp[h,h1]
def gF (day:Int)(l:List Sign):List Sign:=l.takeWhile fun s=>decide (s.day≤day)
def yp (day:Int)(l:List Act):List Act:=l.takeWhile fun s=>decide (s.day≤day)
def fV (n:Nat)(a:Alter):Bool:=decide (a.at_≤(n:Int))
def eP (n:Nat)(x:Fact):Bool:=aw x.at_ n
def aI (f:File)(day:Int):File:=
 ⟨f.bill,gF day f.signs,f.alters.filter (fV (gF day f.signs).length),yp day f.acts,f.facts.filter (eP (gF day f.signs).length)⟩
theorem vu {α:Type}(p:α→Bool):∀(l:List α),∃m,m≤l.length∧l.takeWhile p=l.take m∧(∀k (hk:k<l.length),k<m→p l[k]=true)∧(∀hk:m<l.length,p l[m]=false)
 |[]=>⟨0,by simp,by simp,fun k hk=>by simp at hk,fun hk=>by simp at hk⟩
 |a::l=>by
  by_cases h:p a=true
  ·obtain⟨m,h1,h2,h3,h4⟩:=vu p l;refine⟨m+1,by simp;omega,by simp[h,h2],fun k hk hm=>?_,fun hk=>?_⟩
   ·cases k with
    |zero=>simpa using h
    |succ k=>simpa using h3 k (by simpa using hk) (by omega)
   ·simpa using h4 (by simpa using hk)
  ·refine⟨0,by simp,by simp[h],fun k hk hm=>by omega,fun hk=>by simpa using h⟩
theorem yj {α:Type}(p:α→Bool)(l:List α){k:Nat}(hk:k<l.length):(l.take (k+1)).filter p=(l.take k).filter p++if p l[k] then[l[k]] else[]:=by
 rw[List.take_succ_eq_append_getElem hk,List.filter_append]
 congr 1
 cases h:p l[k]<;>simp[h]
def kF (b:Bill)(w x y z:D):D:=.agg [.int b.drawer,.int b.drawee,.int b.payee,.int b.sum,.int b.currency,.int b.tenor.kind,.int b.tenor.n,.int b.tenor.unit,.int b.day,.int b.city,.int b.pay,.int b.need,.int b.rate,.int b.flags,.int b.parts,w,x,y,z]
@[simp] theorem aDP (b:Bill)(w x y z:D):D.agg (cM (kF b w x y z).cells 16 [D.none])=kF b w .none y z:=_root_.id rfl
@[simp] theorem aDQ (b:Bill)(w x y z:D):D.agg (cM (kF b w x y z).cells 18 [D.none])=kF b w x y .none:=_root_.id rfl
def kf {α:Type}(l:List α):D:=match l with|[]=>.list []|_=>.none
@[simp] theorem aGa {α:Type}:kf ([]:List α)=.list []:=rfl
@[simp] theorem Yb {α:Type}(l:List α)(x:α):kf (l++[x])=.none:=by cases l<;>rfl
theorem R5 (f:File)(day:Int)(h1:f.signs.length≤4294967295)(h2:f.acts.length≤4294967295)(h3:f.alters.length≤4294967295)(h4:f.facts.length≤4294967295):ak T aaY [cD f,.int day] (cD (aI f day)):=by
 refine .of_tree rfl ah0 az3 ?_;simp[Uf];obtain⟨m,hm,hS,F9,rz⟩:=vu (fun s:Sign=>decide (s.day≤day)) f.signs;obtain⟨n,hn,hA,No,Np⟩:=vu (fun s:Act=>decide (s.day≤day)) f.acts;refine aO.forRounds m (fun k=>[.int k]) (fun k=>[signs (f.signs.take k),kF f.bill (kf (f.signs.take k)) (.list []) (.list []) (.list [])]) ?_ (fun k hk=>?_) ?_
 ·simp[kF,signs]
  try rfl
 ·have aY:k<f.signs.length:=by omega
  have hw:=bl aY (by omega);have hd:=F9 k aY hk;simp at hd;have cT:¬day<f.signs[k].day:=by omega
  have hle:(k:Int)+1≤4294967296:=by omega
  have ht:=List.take_succ_eq_append_getElem aY;rw[ht];have hlen:(f.signs.take k).length=k:=by simp;omega
  generalize f.signs.take k=A at*;simp[RN,C3,aY,hw,cT,hlen];exact⟨hle,by simp[signs],rfl⟩
 have hSl:(f.signs.take m).length≤4294967295:=by rw[List.length_take];omega
 have Nq:aI f day=⟨f.bill,f.signs.take m,f.alters.filter (fV (f.signs.take m).length),f.acts.take n,f.facts.filter (eP (f.signs.take m).length)⟩:=by
  unfold aI gF yp;rw[hS,hA]
 rw[Nq];generalize f.signs.take m=S at*;have hAl:(f.acts.take n).length≤4294967295:=by rw[List.length_take];omega
 by_cases dC:m<f.signs.length
 case' pos=>
  have hd:=rz dC;simp at hd;simp[RN,C3,dC,hd];generalize D.bool true=bb
 case' neg=>
  have ka:m=f.signs.length:=by omega
  simp[RN,C3,dC,ka];generalize D.bool false=bb
 all_goals
  refine aO.forRounds n (fun k=>[.int k]) (fun k=>[acts (f.acts.take k),kF f.bill (kf S) (.list []) (kf (f.acts.take k)) (.list [])]) ?_ (fun k hk=>?_) ?_
  ·simp[acts]
  ·have aY:k<f.acts.length:=by omega
   have hw:=bl aY (by omega);have hd:=No k aY hk;simp at hd;have cT:¬day<f.acts[k].day:=by omega
   have hle:(k:Int)+1≤4294967296:=by omega
   have ht:=List.take_succ_eq_append_getElem aY;rw[ht];have hlen:(f.acts.take k).length=k:=by simp;omega
   generalize f.acts.take k=A at*;simp[RO,C4,aY,hw,cT,hlen];exact⟨hle,by simp[acts],rfl⟩
  generalize f.acts.take n=A at*;by_cases fB:n<f.acts.length
  case' pos=>
   have hd:=Np fB;simp at hd;simp[RO,C4,fB,hd];generalize D.bool true=bc
  case' neg=>
   have nN:n=f.acts.length:=by omega
   simp[RO,C4,fB,nN];generalize D.bool false=bc
  all_goals
   refine aO.forRounds f.alters.length (fun k=>[.int k]) (fun k=>[kF f.bill (kf S) (kf ((f.alters.take k).filter (fV S.length))) (kf A) (.list []),alters ((f.alters.take k).filter (fV S.length))]) ?_ (fun k hk=>?_) ?_
   ·simp[alters]
   ·have hw:=bl hk (by omega);have ht:=yj (fV S.length) f.alters hk;rw[ht];have hlen:((f.alters.take k).filter (fV S.length)).length≤k:=Nat.le_trans (List.length_filter_le _ _) (by simp;omega);generalize (f.alters.take k).filter (fV S.length)=B at*;by_cases hd:f.alters[k].at_≤(S.length:Int)
    ·simp[RP,C5,fV,hk,hw,hd];exact⟨by omega,rfl,by simp[alters]⟩
    ·simp[RP,C5,fV,hk,hw,hd]
   simp[RP,C5];generalize f.alters.filter (fV S.length)=B at*;refine aO.forRounds f.facts.length (fun k=>[.int k]) (fun k=>[kF f.bill (kf S) (kf B) (kf A) (kf ((f.facts.take k).filter (eP S.length))),facts ((f.facts.take k).filter (eP S.length))]) ?_ (fun k hk=>?_) ?_
   ·simp[facts]
   ·have hw:=bl hk (by omega);have ht:=yj (eP S.length) f.facts hk;rw[ht];have hlen:((f.facts.take k).filter (eP S.length)).length≤k:=Nat.le_trans (List.length_filter_le _ _) (by simp;omega);generalize (f.facts.take k).filter (eP S.length)=C at*;cases hd:aw f.facts[k].at_ S.length
    ·simp[RQ,C6,eP,hk,hw,hd];refine⟨_,ox _ _,?_⟩;simp[hd,hw]
    ·simp[RQ,C6,eP,hk,hw,hd];refine⟨_,ox _ _,?_⟩;simp[hd,hw];exact⟨by omega,rfl,by simp[facts]⟩
   simp[RQ,C6];rfl
end Rm
namespace Rm
open Go Go.Proofs Cx
def dY:List Int→Int
 |[]=>-1
 |x::l=>l.foldl min x
theorem af0 (x:Int)(l:List Int)(hl:l.length<4294967296):ak T abf [ints (x::l)] (.int (dY (x::l))):=by
 refine .of_tree rfl aij aAk ?_;have h0:¬((l.length:Int)+1<1):=by omega
 simp[Uv,h0,dY,ints];refine aO.forRounds l.length (fun k=>[.int ((l.take k).foldl min x),.int ((k:Int)+1)]) (fun k=>[]) ?_ (fun k hk=>?_) ?_
 ·simp
 ·have hw:IntKind.i64.wrap ((k:Int)+1+1)=(k:Int)+1+1:=bD (by omega);rw[List.take_succ_eq_append_getElem hk,List.foldl_append];generalize (l.take k).foldl min x=y;have ht:((k:Int)+1).toNat=k+1:=by omega
  have ah:(k:Int)+1<(l.length:Int)+1:=by omega
  simp[aew,KU,hk,hw,ht,ah];refine⟨by omega,?_⟩;by_cases h:l[k]<y
  ·simp[h];omega
  ·simp[h];omega
 ·simp[aew,KU]
def ia (f:File)(n:Nat):List Int:=if f.bill.tenor.kind=1 then((f.signs.take n).filter (fun s=>decide (s.kind=1))).map (·.day) else[]
def gp (f:File)(n:Nat):List Int:=if f.bill.tenor.kind=1 then((f.acts.take n).filter (fun s=>decide (s.kind=1))).map (·.day) else[]
def ld (f:File)(a:Act):Bool:=decide (f.bill.tenor.kind=0)&&decide (a.kind=2)
def hZ (f:File):Int:=match f.acts.find? (ld f) with|some a=>a.day|none=>dY (ia f f.signs.length++gp f f.acts.length)
theorem aeC (f:File)(h1:f.signs.length≤100000)(h2:f.acts.length≤100000):ak T aa0 [cD f] (.int (hZ f)):=by
 refine .of_tree rfl ah2 az5 ?_;simp[Uh];refine aO.forRounds f.signs.length (fun k=>[.none,.int k]) (fun k=>[ints (ia f k)]) ?_ (fun k hk=>?_) ?_
 ·simp[ia,ints]
 ·have hw:=bl hk (by omega);have hs:ia f (k+1)=ia f k++if f.bill.tenor.kind=1∧f.signs[k].kind=1 then[f.signs[k].day] else[]:=by
   unfold ia;by_cases h:f.bill.tenor.kind=1
   ·simp only[if_pos h,yj _ _ hk,List.map_append,h,true_and]
    congr 1
    by_cases h':f.signs[k].kind=1<;>simp[h']
   ·simp[h]
  have hlen:(ia f k).length≤k:=by
   unfold ia;split
   ·rw[List.length_map];exact Nat.le_trans (List.length_filter_le _ _) (by simp;omega)
   ·simp
  rw[hs];generalize ia f k=A at*;by_cases hc:f.bill.tenor.kind=1∧f.signs[k].kind=1
  ·simp[RS,C8,hk,hw,hc];exact⟨by omega,by simp[ints]⟩
  ·simp[RS,C8,hk,hw,hc]
 ·have hlS:(ia f f.signs.length).length≤100000:=by
   unfold ia;split
   ·rw[List.length_map];exact Nat.le_trans (List.length_filter_le _ _) (by simp;omega)
   ·simp
  have hE:hZ f=match f.acts.find? (ld f) with|some a=>a.day|none=>dY (ia f f.signs.length++gp f f.acts.length):=rfl
  generalize ia f f.signs.length=A at*;simp[RS,C8];refine aO.scan f.acts.length (fun k=>ld f (f.acts.getD k default)=false) (fun k=>[.int 0,.none,.int k]) (fun k=>[ints (A++gp f k)]) ?_ (fun k hk hj ho=>?_) (fun k hk hj ho=>?_) (fun hj=>?_)
  ·simp[gp,ints]
  ·have hw:=bl hk (by omega);have hs:gp f (k+1)=gp f k++if f.bill.tenor.kind=1∧f.acts[k].kind=1 then[f.acts[k].day] else[]:=by
        unfold gp;by_cases h:f.bill.tenor.kind=1
        ·simp only[if_pos h,yj _ _ hk,List.map_append,h,true_and]
         congr 1
         by_cases h':f.acts[k].kind=1<;>simp[h']
        ·simp[h]
   have hlen:(gp f k).length≤k:=by
        unfold gp;split
        ·rw[List.length_map];exact Nat.le_trans (List.length_filter_le _ _) (by simp;omega)
        ·simp
   rw[hs];generalize gp f k=B at*;simp[ld,hk] at ho;by_cases hc:f.bill.tenor.kind=1∧f.acts[k].kind=1
   ·simp[C9,vh,hk,hw,hc];exact⟨by omega,by simp[ints]⟩
   ·have hn:¬(f.bill.tenor.kind=0∧f.acts[k].kind=2):=fun h=>ho h.1 h.2;simp[C9,vh,hk,hw,hc,hn]
  ·have hf:hZ f=f.acts[k].day:=by
        rw[hE,tD hk (by simpa [hk] using ho) (fun j bB=>by have:=hj j bB;simpa [show j<f.acts.length by omega] using this)]
   simp[ld,hk] at ho;simp[C9,vh,hk,ho,hf]
  ·have hf:hZ f=dY (A++gp f f.acts.length):=by
        rw[hE,v3 (fun j bB=>by have:=hj j bB;simpa [bB] using this)]
   have hlA:(gp f f.acts.length).length≤100000:=by
        unfold gp;split
        ·rw[List.length_map];exact Nat.le_trans (List.length_filter_le _ _) (by simp;omega)
        ·simp
   rw[hf];have hL:(A++gp f f.acts.length).length≤200000:=by rw[List.length_append];omega
   generalize A++gp f f.acts.length=L at*;cases L with
   |nil=>simp[C9,vh,dY,ints]
   |cons x l=>
    have aD:¬((l.length:Int)+1=0):=by omega
    simp[C9,vh,aD];exact af0 x l (by simp at hL;omega)
end Rm
