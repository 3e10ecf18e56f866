/-
  Shared texts of this claim.
-/
import Derived.Test.YtibbcfbmjlehcaaGreatDoorBAQ
set_option linter.defProp false
set_option linter.unusedSimpArgs false
set_option linter.unusedVariables false
noncomputable section
open Go.IntKind (i64)
namespace Rm
open Go Go.Proofs Cx
@[simp] def aHc:D.none.b=false:=zyz
def eX (n a b:Int):ah T 53 [.int n,.int a,.int b] (.bool (wi n a b)):=by
 refine zyw 144 ayF ?_;simp[XV];by_cases h:a<=n<;>simp[wi,h]
def oW (n m:Int):ah T 87 [.int n,.int m] (.bool (aD n m)):=by
 refine zyw 141 aAb ?_;simp[Zw];by_cases h:0<=n<;>simp[aD,h]
def Oz (b:Bill):Bool:=
 if b.tenor.kind=0\/b.tenor.kind=4 then decide (b.tenor.n=0)&&decide (b.tenor.unit=0)
 else if b.tenor.kind=1\/b.tenor.kind=2 then(decide (1<=b.tenor.n)&&decide (b.tenor.n<=400))&&(decide (b.tenor.unit=0)||decide (b.tenor.unit=1))
 else if b.tenor.kind=3 then(decide (b.day<=b.tenor.n)&&decide (b.tenor.n<=100000))&&decide (b.tenor.unit=0)
 else false
def aAz (b:Bill):ah T 88 [dE b] (.bool (Oz b)):=by
 refine zyw 142 aAc ?_;unfold Oz;simp[Zx];by_cases h0:b.tenor.kind=0
 .by_cases h1:b.tenor.n=0<;>simp[h0,h1]
 by_cases h4:b.tenor.kind=4
 .by_cases h1:b.tenor.n=0<;>simp[h4,h1]
 simp[h0,h4];by_cases k1:b.tenor.kind=1
 .by_cases h1:1<=b.tenor.n<;>by_cases h2:b.tenor.n<=400<;>by_cases h3:b.tenor.unit=0<;>simp[k1,h1,h2,h3]
 by_cases k2:b.tenor.kind=2
 .by_cases h1:1<=b.tenor.n<;>by_cases h2:b.tenor.n<=400<;>by_cases h3:b.tenor.unit=0<;>simp[k2,h1,h2,h3]
 simp[k1,k2];by_cases k3:b.tenor.kind=3
 .by_cases h1:b.day<=b.tenor.n<;>by_cases h2:b.tenor.n<=100000<;>simp[k3,h1,h2]
 simp[k3]
def uS (n m:Int):Bool:=decide (n=-1)||aD n m
def zW (r:Realm)(b:Bill):Bool:=((aD b.drawer r.firms.length&&aD b.drawee r.firms.length)&&uS b.payee r.firms.length)&&uS b.need r.firms.length
def xj (r:Realm)(b:Bill):Bool:=(aD b.currency r.currencies.length&&aD b.city r.cities.length)&&aD b.pay r.cities.length
def zG (b:Bill):Prop:=((((1<=b.sum/\b.sum<=1099511627776)/\0<=b.day)/\b.day<=100000)/\0<=b.rate)/\b.rate<=1000
def Rk (b:Bill):Prop:=((0<=b.flags/\b.flags<=7)/\(bW .and .i64 b.flags 4=0\/¬b.payee=-1))/\Oz b=true
structure BillOK (r:Realm) (b:Bill):Prop where
 realm:il r=0
 who:zW r b=true
 where_:xj r b=true
 range:zG b
 parts:1<=b.parts/\b.parts<=4
 form:Rk b
 usance:b.tenor.kind=4->∃u,u∈r.usances/\u.fr=b.city/\u.to=b.pay
def qy (P:Prop)(d:D):Prop:=∃e:Int,d=.int e/\(e=0↔P)
def qy.no {P:Prop}{e:Int}(h:¬P)(he:e≠0):qy P (.int e):=⟨e,rfl,λx=>absurd x he,λx=>absurd x h⟩
def qy.ok {P:Prop}(h:P):qy P (.int 0):=⟨0,rfl,λ_=>h,λ_=>rfl⟩
def aAy (r:Realm)(hs:Small r)(b:Bill):∃d,ah T 51 [aQ r,dE b] d/\qy (BillOK r b) d:=by
 refine ah.ex_of_tree rfl akS aAa ?_;simp[Zv];refine⟨_,N2 r hs,?_⟩;by_cases h0:il r=0
 case neg=>
  simp[h0];exact .no (λh=>h0 h.realm) h0
 simp[h0];refine⟨_,oW _ _,?_⟩;cases h1:aD b.drawer r.firms.length
 .simp;exact .no (λh=>by simpa [zW,h1] using h.who) (by decide)
 simp;refine⟨_,oW _ _,?_⟩;cases h2:aD b.drawee r.firms.length
 .simp;exact .no (λh=>by simpa [zW,h2] using h.who) (by decide)
 by_cases h3:uS b.payee r.firms.length=true
 case neg=>
  have fw:¬b.payee=-1/\aD b.payee r.firms.length=false:=by simpa [uS] using h3
  simp[fw.1];refine⟨_,oW _ _,?_⟩;simp[fw.2];exact .no (λh=>h3 (by have:=h.who;simp[zW] at this;exact this.1.2)) (by decide)
 by_cases h4:uS b.need r.firms.length=true
 case neg=>
  have om:¬b.need=-1/\aD b.need r.firms.length=false:=by simpa [uS] using h4
  have fC:qy (BillOK r b) (.int 1):=.no (λh=>h4 (by have:=h.who;simp[zW] at this;exact this.2)) (by decide);by_cases hp:b.payee=-1
  .simp[hp,om.1];refine⟨_,oW _ _,?_⟩;simp[om.2];exact fC
  .have fw:aD b.payee r.firms.length=true:=by simpa [uS,hp] using h3
   simp[hp];refine⟨_,oW _ _,?_⟩;simp[fw,om.1];refine⟨_,oW _ _,?_⟩;simp[om.2];exact fC
 have LU:zW r b=true:=by simp[zW,h1,h2,h3,h4]
 have hp:b.payee=-1\/(¬b.payee=-1/\aD b.payee r.firms.length=true):=by
  by_cases e:b.payee=-1
  .exact .inl e
  .exact .inr ⟨e,by simpa [uS,e] using h3⟩
 have hn:b.need=-1\/(¬b.need=-1/\aD b.need r.firms.length=true):=by
  by_cases e:b.need=-1
  .exact .inl e
  .exact .inr ⟨e,by simpa [uS,e] using h4⟩
 have bad:¬xj r b=true->qy (BillOK r b) (.int 1):=λh=>.no (λk=>h k.where_) (by decide);have fin:∀u:Int,(u=0↔∃u,u∈r.usances/\u.fr=b.city/\u.to=b.pay)->zG b->(1<=b.parts/\b.parts<=4)->Rk b->xj r b=true->qy (BillOK r b) (if b.tenor.kind=4 then .int u else .int 0):=by
  intro u hu h6 h7 h8 h9;by_cases e:b.tenor.kind=4
  .rw[if_pos e];exact⟨u,rfl,λh=>⟨h0,LU,h9,h6,h7,h8,λ_=>hu.1 h⟩,λh=>hu.2 (h.usance e)⟩
  .rw[if_neg e];exact .ok ⟨h0,LU,h9,h6,h7,h8,λh=>absurd h e⟩
 obtain⟨un,ue,hu1,_,hu2⟩:=aaH r b.city b.pay (by have:=hs.us;omega);rcases hp with hp|⟨hp,fE⟩<;>rcases hn with hn|⟨hn,ru⟩
 case' inl.inl=>simp[hp,hn]
 case' inl.inr=>simp[hp,hn];refine⟨_,oW _ _,?_⟩;simp[ru]
 case' inr.inl=>simp[hp,hn];refine⟨_,oW _ _,?_⟩;simp[fE]
 case' inr.inr=>simp[hp,hn];refine⟨_,oW _ _,?_⟩;simp[fE];refine⟨_,oW _ _,?_⟩;simp[ru]
 all_goals
  refine⟨_,oW _ _,?_⟩;cases h5:aD b.currency r.currencies.length
  .simp;exact bad (by simp[xj,h5])
  simp;refine⟨_,oW _ _,?_⟩;cases h6:aD b.city r.cities.length
  .simp;exact bad (by simp[xj,h6])
  simp;refine⟨_,oW _ _,?_⟩;cases h7:aD b.pay r.cities.length
  .simp;exact bad (by simp[xj,h7])
  have Ge:xj r b=true:=by simp[xj,h5,h6,h7]
  simp;by_cases h8:zG b
  case neg=>
   have Ru:((((b.sum<1\/1099511627776<b.sum)\/b.day<0)\/100000<b.day)\/b.rate<0)\/1000<b.rate:=by unfold zG at h8;omega
   rw[if_pos Ru];exact .no (λk=>h8 k.range) (by decide)
  have Ru:¬(((((b.sum<1\/1099511627776<b.sum)\/b.day<0)\/100000<b.day)\/b.rate<0)\/1000<b.rate):=by unfold zG at h8;omega
  rw[if_neg Ru];by_cases h9:1<=b.parts/\b.parts<=4
  case neg=>
   rw[if_pos (by omega)];exact .no (λk=>h9 k.parts) (by decide)
  rw[if_neg (by omega)];have PA:¬Rk b->qy (BillOK r b) (.int 2):=λh=>.no (λk=>h k.form) (by decide);by_cases g1:0<=b.flags/\b.flags<=7
  case neg=>
   have fu:b.flags<0\/7<b.flags:=by omega
   simp[g1,fu];exact PA (λh=>g1 h.1.1)
  have fu:¬(b.flags<0\/7<b.flags):=by omega
  by_cases g2:bW .and .i64 b.flags 4=0\/¬b.payee=-1
  case neg=>
   have pA:¬bW .and .i64 b.flags 4=0/\b.payee=-1:=by simpa using g2
   first
        |exact absurd pA.2 hp
        |(simp[g1,fu,pA]
          exact PA (λh=>g2 h.1.2))
  have g3:(b.payee=-1->bW .and .i64 b.flags 4=0):=λe=>g2.resolve_right (λh=>h e);simp[g1,fu,hp,g3];refine⟨_,aAz b,?_⟩;cases jo:Oz b
  .simp;exact PA (λh=>by have:=h.2;rw[jo] at this;cases this)
  have hf:=fin ue hu2 h8 h9 ⟨⟨g1,g2⟩,jo⟩ Ge;simp;by_cases e:b.tenor.kind=4
  .simp[e] at hf ⊢;exact⟨_,hu1,hf⟩
  .simp[e] at hf ⊢;exact hf
def Dp (f:File)(i part:Int):Bool:=decide (i=0)||decide ((eY f i).part=part)
def ahs (f:File)(i part:Int)(h:i=0\/(0<=i/\i<f.signs.length)):ah T 132 [cu f,.int i,.int part] (.bool (Dp f i part)):=by
 refine zyw 147 ayH ?_;unfold Dp;by_cases h0:i=0
 .simp[OJ,h0]
 .obtain⟨h1,h2⟩:=h.resolve_left h0;have h3:i.toNat<f.signs.length:=by omega
  simp[OJ,h0,h1,h2,h3,eY]
def Ja (f:File)(i:Int)(kinds:List Int):Bool:=wi (eY f i).for_ 0 (i-1)&&(Dp f (eY f i).for_ (eY f i).part&&hasB kinds (eY f (eY f i).for_).kind)
def avh (f:File)(i:Int)(kinds:List Int)(h:0<=i/\i<f.signs.length)(hl:f.signs.length<=100000)(hk:kinds.length<=100):ah T 131 [cu f,.int i,ints kinds] (.bool (Ja f i kinds)):=by
 refine zyw 146 ayC ?_;have h1:i.toNat<f.signs.length:=by omega
 have hw:i64.wrap (i-1)=i-1:=aO (by omega);have hs:eY f i=f.signs[i.toNat]:=by simp[eY,h1]
 unfold Ja;rw[hs];simp[XS,h,h1,hw];refine⟨_,eX _ _ _,?_⟩;cases hb:wi f.signs[i.toNat].for_ 0 (i-1)
 .simp
 .have bP:0<=f.signs[i.toNat].for_/\f.signs[i.toNat].for_<f.signs.length:=by
   simp[wi] at hb;omega
  have h2:f.signs[i.toNat].for_.toNat<f.signs.length:=by omega
  have dT:eY f f.signs[i.toNat].for_=f.signs[f.signs[i.toNat].for_.toNat]:=by simp[eY,h2]
  rw[dT];simp;refine⟨_,ahs f _ _ (.inr bP),?_⟩;cases cI:Dp f f.signs[i.toNat].for_ f.signs[i.toNat].part
  .simp
  simp[bP,h2];exact xo kinds _ (by omega)
def Rg (r:Realm)(b:Bill)(s:Sign)(B:List Int->Bool):Bool:=
 if s.kind=0 then((((decide (s.who=b.drawer)&&decide (s.sum=0))&&decide (bW .or .i64 s.flags 1=1))&&decide (s.part=0))&&decide (s.day=b.day))&&decide (s.city=b.city)
 else if s.kind=1 then decide (s.who=b.drawee)&&(wi s.sum 1 1099511627776&&decide (s.flags=0))
 else if s.kind=2 then((wi s.to (-1) ((r.firms.length:Int)-1)&&decide (s.sum=0))&&wi s.flags 0 7)&&decide (bW .and .i64 s.flags 6≠6)
 else if s.kind=3 then(decide (s.sum=0)&&decide (s.flags=0))&&B [0,1,2,4]
 else if s.kind=4 then((wi s.sum 1 1099511627776&&decide (s.flags=0))&&decide (s.who≠b.drawee))&&B [0,2]
 else false
def KS (r:Realm)(b:Bill)(i:Nat)(s:Sign)(B:List Int->Bool):Bool:=
 if ¬(i=0↔s.kind=0)\/(¬s.kind=2/\¬s.to=-1) then false
 else if(¬s.kind=3/\¬s.kind=4)/\¬s.for_=-1 then false
 else Rg r b s B
def yg (r:Realm)(f:File)(i:Nat):Bool:=KS r f.bill i (f.signs.getD i default) (Ja f i)
def avj (r:Realm)(hr:Small r)(f:File)(i:Nat)(h:i<f.signs.length)(hl:f.signs.length<=100000):ah T 90 [aQ r,cu f,.int i] (.bool (yg r f i)):=by
 refine zyw 145 ayE ?_;have lu:=hr.firms;have hw:i64.wrap ((r.firms.length:Int)-1)=(r.firms.length:Int)-1:=aO (by omega);have hs:f.signs.getD i default=f.signs[i]:=by simp[h]
 have RJ:=λks hk=>avh f i ks ⟨by omega,by omega⟩ hl hk;unfold yg;rw[hs];generalize hB:Ja f i=B at RJ ⊢;generalize hX:KS r f.bill i f.signs[i] B=X;simp[XU,h];generalize f.signs[i]=s at*;unfold KS at hX;by_cases h1:¬(i=0↔s.kind=0)\/(¬s.kind=2/\¬s.to=-1)
 .rw[if_pos h1] at hX ⊢;exact hX.symm
 rw[if_neg h1] at hX ⊢;by_cases h2:(¬s.kind=3/\¬s.kind=4)/\¬s.for_=-1
 .rw[if_pos h2] at hX ⊢;exact hX.symm
 rw[if_neg h2] at hX ⊢;refine⟨_,eX _ _ _,?_⟩;unfold Rg at hX;by_cases k0:s.kind=0
 .rw[if_pos k0] at hX ⊢;rw[<-hX];by_cases a:(((s.who=f.bill.drawer/\s.sum=0)/\bW BinOp.or IntKind.i64 s.flags 1=1)/\s.part=0)/\s.day=f.bill.day
  .simp[a]
  .rw[if_neg a]
   congr 1
   rw[eq_comm,aab];intro e;simp at e;exact a e.1
 rw[if_neg k0] at hX ⊢;by_cases k1:s.kind=1
 .rw[if_pos k1] at hX ⊢;rw[<-hX];by_cases a:s.who=f.bill.drawee<;>cases wi s.sum 1 1099511627776<;>simp[a]
 rw[if_neg k1] at hX ⊢;by_cases k2:s.kind=2
 .rw[if_pos k2] at hX ⊢;rw[<-hX,hw];refine⟨_,eX _ _ _,?_⟩;cases wi s.to (-1) ((r.firms.length:Int)-1)
  .simp
  by_cases a:s.sum=0
  case neg=>simp[a]
  simp[a];refine⟨_,eX _ _ _,?_⟩;cases wi s.flags 0 7<;>simp
 rw[if_neg k2] at hX ⊢;by_cases k3:s.kind=3
 .rw[if_pos k3] at hX ⊢;rw[<-hX];by_cases a:s.sum=0/\s.flags=0
  case neg=>
   rw[if_neg a,if_neg a]
   congr 1
   rw[eq_comm,aab];intro e;simp at e;exact a e.1
  rw[if_pos a];refine⟨_,RJ [0,1,2,4] (by decide),?_⟩;simp[a]
 rw[if_neg k3] at hX ⊢;by_cases k4:s.kind=4
 .rw[if_pos k4] at hX ⊢;rw[<-hX];cases wi s.sum 1 1099511627776
  .simp
  by_cases a:s.flags=0/\¬s.who=f.bill.drawee
  case neg=>
   simp[a]
  simp[a];exact RJ [0,2] (by decide)
 rw[if_neg k4] at hX ⊢;exact hX.symm
def od (f:File)(i:Nat):Int:=if i=0 then f.bill.day else(f.signs.getD (i-1) default).day
def Iw (f:File)(i:Nat)(s:Sign):Bool:=(f.signs.take i).any λx=>(decide (s.kind=1)&&decide (x.kind=1))&&decide (x.part=s.part)
def Dm (r:Realm)(f:File)(i:Nat):Int:=
 let s:=f.signs.getD i default
 if wi s.part 0 (f.bill.parts-1)=false then 15
 else if aD s.who r.firms.length=false\/aD s.city r.cities.length=false then 1
 else if wi s.day (od f i) 100000=false\/(i=0/\¬s.day=od f i) then 13
 else if yg r f i=false then 14
 else if Iw f i s=true then 5 else 0
def ahr (r:Realm)(hr:Small r)(f:File)(hp:1<=f.bill.parts/\f.bill.parts<=4)(i:Nat)(h:i<f.signs.length)(hl:f.signs.length<=100000):ah T 52 [aQ r,cu f,.int i] (.int (Dm r f i)):=by
 refine zyw 143 ayG ?_;have lu:=hr.firms;have RO:=hr.cities;have jb:i64.wrap ((r.firms.length:Int)-1)=(r.firms.length:Int)-1:=aO (by omega);have cT:i64.wrap ((r.cities.length:Int)-1)=(r.cities.length:Int)-1:=aO (by omega);have S7:i64.wrap (f.bill.parts-1)=f.bill.parts-1:=aO (by omega);have hs:f.signs.getD i default=f.signs[i]:=by simp[h]
 generalize hX:Dm r f i=X;unfold Dm at hX;simp only[hs] at hX;simp[XW,h,jb,cT,S7];refine⟨_,eX _ _ _,?_⟩;cases a1:wi f.signs[i].part 0 (f.bill.parts-1)
 .simpa [a1] using hX
 simp[a1] at hX ⊢;refine⟨_,eX _ _ _,?_⟩;rw[oG] at hX;cases a2:wi f.signs[i].who 0 ((r.firms.length:Int)-1)
 .simpa [a2] using hX
 simp[a2] at hX ⊢;refine⟨_,eX _ _ _,?_⟩;rw[oG] at hX;cases a3:wi f.signs[i].city 0 ((r.cities.length:Int)-1)
 .simpa [a3] using hX
 simp[a3] at hX ⊢;refine⟨by omega,?_⟩;have yF:min i f.signs.length=i:=by omega
 refine aL.forRounds i (λk=>[.int (od f k),.bool ((f.signs.take k).any λx=>(decide (f.signs[i].kind=1)&&decide (x.kind=1))&&decide (x.part=f.signs[i].part)),.int k]) (λ_=>[]) ?_ (λk hk=>?_) ?_
 .simp[od]
 .have hw:=br hk (by omega);have bf:k<f.signs.length:=by omega
  have hf:od f (k+1)=f.signs[k].day:=by simp[od,bf]
  rw[iP bf,List.any_append];generalize ((f.signs.take k).any λx=>(decide (f.signs[i].kind=1)&&decide (x.kind=1))&&decide (x.part=f.signs[i].part))=A;simp[aix,NK,hk,bf,h,hw,hf,yF];cases A
  .by_cases e1:f.signs[i].kind=1<;>by_cases e2:f.signs[k].kind=1<;>simp[e1,e2]
  .simp
 .have ht:Iw f i f.signs[i]=true↔∃x,x∈List.take i f.signs/\(f.signs[i].kind=1/\x.kind=1)/\x.part=f.signs[i].part:=by simp[Iw]
  simp[aix,NK,yF,h];refine⟨_,eX _ _ _,?_⟩;by_cases a4:wi f.signs[i].day (od f i) 100000=false\/(i=0/\¬f.signs[i].day=od f i)
  .rw[if_pos a4] at hX;rw[if_pos (by simpa using a4)];exact hX
  rw[if_neg a4] at hX;rw[if_neg (by simpa using a4)];refine⟨_,avj r hr f i h hl,?_⟩;cases a5:yg r f i
  .simpa [a5] using hX
  simp[a5] at hX;simp only[amj,if_true];rw[<-hX];by_cases a6:Iw f i f.signs[i]=true
  .rw[if_pos a6,if_pos (ht.1 a6)]
  .rw[if_neg a6,if_neg (λx=>a6 (ht.2 x))]
def I0 (a:Act)(to at_ own:Bool):Bool:=
 if a.kind=0\/a.kind=1\/a.kind=2 then(to&&decide (a.at_=-1))&&decide (a.sum=0)
 else if a.kind=3\/a.kind=4\/a.kind=5 then((to&&decide (a.at_=-1))&&wi a.sum 0 1099511627776)&&wi a.form 0 1
 else if a.kind=6 then(to&&own)&&wi a.sum 1 1099511627776
 else if a.kind=9 then(decide (a.to=-1)&&own)&&decide (a.sum=0)
 else(decide (a.to=-1)&&at_)&&decide (a.sum=0)
def D4 (f:File)(a:Act):Bool:=aD a.at_ f.signs.length&&Dp f a.at_ a.part
def UU (f:File)(a:Act):Bool:=D4 f a&&decide ((eY f a.at_).who=a.who)
def vq (r:Realm)(f:File)(a:Act):Bool:=
 if aD a.who r.firms.length=false\/(¬a.kind=4/\¬a.form=0) then false else I0 a (aD a.to r.firms.length) (D4 f a) (UU f a)
def avf (r:Realm)(hr:Small r)(f:File)(a:Act)(hl:f.signs.length<=100000):ah T 91 [aQ r,cu f,kg a] (.bool (vq r f a)):=by
 refine zyw 149 ayA ?_;have lu:=hr.firms;have jb:i64.wrap ((r.firms.length:Int)-1)=(r.firms.length:Int)-1:=aO (by omega);have cT:i64.wrap ((f.signs.length:Int)-1)=(f.signs.length:Int)-1:=aO (by omega);generalize hX:vq r f a=X;unfold vq UU D4 at hX;simp[XQ,jb,cT];refine⟨_,eX _ _ _,?_⟩;rw[<-oG];have yT:=eX a.to 0 ((r.firms.length:Int)-1);have Ge:=eX a.who 0 ((r.firms.length:Int)-1);rw[<-oG] at yT Ge;generalize aD a.to r.firms.length=tt at*;generalize aD a.who r.firms.length=ww at*;have fin:∀at_ own:Bool,(if ww=false\/(¬a.kind=4/\¬a.form=0) then false else I0 a tt at_ own)=X->
  if ww=false\/(¬a.kind=4/\¬a.form=0) then X=false
  else if a.kind=0\/a.kind=1\/a.kind=2 then(if tt=true/\a.at_=-1 then D.bool (decide (a.sum=0)) else D.bool false)=D.bool X
  else if a.kind=3\/a.kind=5\/a.kind=4 then
        if tt=true/\a.at_=-1 then
         ∃d,ah (eJ tab ext) 53 [D.int a.sum,D.int 0,D.int 1099511627776] d/\
          if(tt=true/\a.at_=-1)/\d.b=true then
             ∃EE,ah (eJ tab ext) 53 [D.int a.form,D.int 0,D.int 1] EE/\(if(tt=true/\a.at_=-1)/\d.b=true then EE else D.bool false)=D.bool X
          else(if(tt=true/\a.at_=-1)/\d.b=true then D.none else D.bool false)=D.bool X
        else D.bool false=D.bool X
  else if a.kind=6 then
        if tt=true/\own=true then ∃EE,ah (eJ tab ext) 53 [D.int a.sum,D.int 1,D.int 1099511627776] EE/\(if tt=true/\own=true then EE else D.bool false)=D.bool X
        else(if tt=true/\own=true then D.none else D.bool false)=D.bool X
  else if a.kind=9 then(if a.to=-1/\own=true then D.bool (decide (a.sum=0)) else D.bool false)=D.bool X
  else(if a.to=-1/\at_=true then D.bool (decide (a.sum=0)) else D.bool false)=D.bool X:=by
  intro at_ own hX;by_cases p:ww=false\/(¬a.kind=4/\¬a.form=0)
  .rw[if_pos p] at hX ⊢;exact hX.symm
  rw[if_neg p] at hX ⊢;unfold I0 at hX;by_cases k0:a.kind=0\/a.kind=1\/a.kind=2
  .rw[if_pos k0] at hX ⊢;rw[<-hX];by_cases e:tt=true/\a.at_=-1
   .simp[e]
   .rw[if_neg e];cases tt<;>simp at e ⊢;simp[e]
  rw[if_neg k0] at hX ⊢;by_cases k3:a.kind=3\/a.kind=4\/a.kind=5
  .rw[if_pos k3] at hX;rw[if_pos (by omega),<-hX];by_cases e:tt=true/\a.at_=-1
   .rw[if_pos e];refine⟨_,eX _ _ _,?_⟩;cases wi a.sum 0 1099511627776
    .simp
    .simp[e];exact eX _ _ _
   .rw[if_neg e];cases tt<;>simp at e ⊢;simp[e]
  rw[if_neg k3] at hX;rw[if_neg (by omega)];by_cases k6:a.kind=6
  .rw[if_pos k6] at hX ⊢;rw[<-hX];by_cases e:tt=true/\own=true
   .rw[if_pos e];refine⟨_,eX _ _ _,?_⟩;simp[e]
   .rw[if_neg e,if_neg e];cases tt<;>cases own<;>simp at e ⊢
  rw[if_neg k6] at hX ⊢;by_cases k9:a.kind=9
  .rw[if_pos k9] at hX ⊢;rw[<-hX];cases own<;>by_cases e:a.to=-1<;>simp[e]
  rw[if_neg k9] at hX ⊢;rw[<-hX];cases at_<;>by_cases e:a.to=-1<;>simp[e]
 cases h1:aD a.at_ f.signs.length
 .have hf:=fin false false (by simpa [h1] using hX);simp at hf ⊢;refine⟨_,yT,_,Ge,?_⟩;simpa using hf
 have cB:0<=a.at_/\a.at_<f.signs.length:=by simpa [aD] using h1
 have h2:a.at_.toNat<f.signs.length:=by omega
 have hs:eY f a.at_=f.signs[a.at_.toNat]:=by simp[eY,h2]
 simp[cB];refine⟨_,ahs f _ _ (.inr cB),_,yT,_,Ge,?_⟩;rw[h1,hs] at hX;have hf:=fin _ _ hX;cases h3:Dp f a.at_ a.part
 .rw[h3] at hf;simpa using hf
 .rw[h3] at hf;simpa [h2] using hf
def Mn (a b:Int):(if a<b then b else a)=max a b:=by split<;>omega
def TK (a b:Int):(if a<b then D.int b else D.int a)=D.int (max a b):=by
 rw[<-Mn];split<;>rfl
def Tt (f:File)(i:Nat)(a:Act):Int:=
 let x:=if a.at_=-1 then f.bill.day else max f.bill.day (eY f a.at_).day
 if i=0 then x else max x (f.acts.getD (i-1) default).day
def vt (r:Realm)(f:File)(i:Nat):Int:=
 let a:=f.acts.getD i default
 if wi a.part 0 (f.bill.parts-1)=false then 15
 else if aD a.city r.cities.length=false\/wi a.kind 0 9=false then 1
 else if vq r f a=false then 14
 else if wi a.day (Tt f i a) 100000=false then 13 else 0
def aaK {r:Realm}{f:File}{a:Act}(h:vq r f a=true)(hn:¬a.at_=-1):0<=a.at_/\a.at_<f.signs.length:=by
 unfold vq at h;split at h
 .cases h
 have key:D4 f a=true->0<=a.at_/\a.at_<f.signs.length:=λe=>by
  unfold D4 at e;simp only[ao] at e;simpa [aD] using e.1
 unfold I0 UU at h
 repeat' split at h
 all_goals simp only[ao,decide_eq_true_eq] at h
 .exact absurd h.1.2 hn
 .exact absurd h.1.1.2 hn
 .exact key h.1.2.1
 .exact key h.1.2.1
 .exact key h.1.2
def avg (r:Realm)(hr:Small r)(f:File)(hp:1<=f.bill.parts/\f.bill.parts<=4)(hl:f.signs.length<=100000)(yB:f.acts.length<=100000):ah T 54 [aQ r,cu f] (.int (fU f.acts.length (vt r f))):=by
 refine zyw 148 ayB ?_;have RO:=hr.cities;have cT:i64.wrap ((r.cities.length:Int)-1)=(r.cities.length:Int)-1:=aO (by omega);have S7:i64.wrap (f.bill.parts-1)=f.bill.parts-1:=aO (by omega);simp[XR];refine qo f.acts.length (vt r f) (λk=>[.int 0,.int k]) (λ_=>[]) ?_ (λk hk ho=>?_) (λk hk ho hb=>?_) (λhj=>?_)
 .simp
 case' refine_2=>have hb:vt r f k=vt r f k:=rfl
 case' refine_3=>rw[hb]
 case refine_4=>simp[aiv,NI,hj]
 all_goals
  have hw:=br hk (by omega);have hs:f.acts.getD k default=f.acts[k]:=by simp[hk]
  clear hb;generalize hX:vt r f k=X at*;unfold vt at hX;simp only[hs] at hX;simp[aiv,NI,hk,cT,S7,hw];refine⟨_,eX _ _ _,?_⟩;cases a1:wi f.acts[k].part 0 (f.bill.parts-1)
  .simp[a1] at hX ⊢
   first|exact hX|(exfalso;omega)
  simp[a1] at hX ⊢;refine⟨_,eX _ _ _,?_⟩;rw[oG] at hX;cases a2:wi f.acts[k].city 0 ((r.cities.length:Int)-1)
  .simp[a2] at hX ⊢
   first|exact hX|(exfalso;omega)
  simp[a2] at hX ⊢;refine⟨_,eX _ _ _,?_⟩;cases a3:wi f.acts[k].kind 0 9
  .simp[a3] at hX ⊢
   first|exact hX|(exfalso;omega)
  simp[a3] at hX ⊢;refine⟨_,avf r hr f f.acts[k] hl,?_⟩;cases a4:vq r f f.acts[k]
  .simp[a4] at hX ⊢
   first|exact hX|(exfalso;omega)
  simp[a4] at hX ⊢;unfold Tt at hX;by_cases k0:k=0
  .subst k0;by_cases e1:f.acts[0].at_=-1
   .simp[e1] at hX;simp[e1];refine⟨_,eX _ _ _,?_⟩;split at hX
    .rename_i e;simp[e]
     first|exact hX|(exfalso;omega)
    .rename_i e
     first|(exfalso;omega)|simp[e]
   .obtain⟨h5,h6⟩:=aaK a4 e1;have h7:f.acts[0].at_.toNat<f.signs.length:=by omega
    have h8:eY f f.acts[0].at_=f.signs[f.acts[0].at_.toNat]:=by simp[eY,h7]
    simp[e1,h8] at hX;simp[e1,h5,h6,h7,TK,Mn];refine⟨_,eX _ _ _,?_⟩;split at hX
    .rename_i e;simp[e]
     first|exact hX|(exfalso;omega)
    .rename_i e
     first|(exfalso;omega)|simp[e]
  .have bC:i64.wrap ((k:Int)-1)=(k:Int)-1:=aO (by omega);have cE:((k:Int)-1).toNat=k-1:=by omega
   have mQ:k-1<f.acts.length:=by omega
   have B2:0<k:=by omega
   by_cases e1:f.acts[k].at_=-1
   .simp[k0,e1,mQ] at hX;simp[e1,B2,bC,cE,mQ,TK,Mn];refine⟨by omega,_,eX _ _ _,?_⟩;split at hX
    .rename_i e;simp[e]
     first|exact hX|(exfalso;omega)
    .rename_i e
     first|(exfalso;omega)|simp[e]
   .obtain⟨h5,h6⟩:=aaK a4 e1;have h7:f.acts[k].at_.toNat<f.signs.length:=by omega
    have h8:eY f f.acts[k].at_=f.signs[f.acts[k].at_.toNat]:=by simp[eY,h7]
    simp[k0,e1,mQ,h8] at hX;simp[e1,B2,bC,cE,mQ,h5,h6,h7,TK,Mn];refine⟨by omega,_,eX _ _ _,?_⟩;split at hX
    .rename_i e;simp[e]
     first|exact hX|(exfalso;omega)
    .rename_i e
     first|(exfalso;omega)|simp[e]
def qO (a b:Int):Int:=if a<b then-1 else if b<a then 1 else 0
def aes (a:Int):ah T 133 [.int a] (.bool false):=by
 refine zyw 152 ayg ?_;simp[Xx]
def aae (a b:Int):ah T 93 [.int a,.int b] (.int (qO a b)):=by
 refine zyw 151 aye ?_;simp[Xv];refine⟨_,aes a,_,aes b,?_⟩;unfold qO;by_cases h1:a<b
 .simp[h1]
 by_cases h2:b<a<;>simp[h1,h2]
def akp (l:List Int)(hl:l.length<=100000):ah T 92 [ints l] (.int (fU l.length λk=>l.getD k 0)):=by
 refine zyw 153 ayf ?_;simp[Xw];refine qo l.length (λk=>l.getD k 0) (λk=>[.int 0,.int k]) (λ_=>[]) ?_ (λk hk ho=>?_) (λk hk ho hb=>?_) (λhj=>?_)
 .simp
 .have hw:=br hk (by omega);have hx:l[k]=0:=by simpa [hk] using ho
  simp[VH,Hd,hk,hx,hw]
 .have hx:¬l[k]=0:=by simpa [hk] using ho
  simp only[aE] at hb ⊢;rw[hb];simp[VH,Hd,hk,hx]
 .simp only[aE] at hj ⊢;rw[hj];simp[VH,Hd]
def or2 (a b:Int):(fU 2 λk=>[a,b].getD k 0)=if a=0 then b else a:=by
 have e:List.range 2=[0,1]:=rfl;unfold fU;rw[e];by_cases ha:a=0<;>by_cases hb:b=0<;>simp[ha,hb]
def Ao (x y:Fact):Prop:=x.at_<y.at_\/(x.at_=y.at_/\x.kind<y.kind)
instance (x y:Fact):Decidable (Ao x y):=by unfold Ao;infer_instance
def akE (x y:Fact):0<=(if qO x.at_ y.at_=0 then qO x.kind y.kind else qO x.at_ y.at_)↔¬Ao x y:=by
 unfold qO Ao
 repeat' split
 all_goals omega
def yf (f:File)(i:Nat):Int:=
 let x:=f.facts.getD i default
 if wi x.kind 0 4=false then 1 else if aD x.at_ f.signs.length=false then 1 else if wi x.n 0 1=false then 1
 else if i=0 then 0 else if Ao (f.facts.getD (i-1) default) x then 0 else 5
def avi (f:File)(hl:f.signs.length<=100000)(hlf:f.facts.length<=100000):ah T 55 [cu f] (.int (fU f.facts.length (yf f))):=by
 refine zyw 150 ayD ?_;have cT:i64.wrap ((f.signs.length:Int)-1)=(f.signs.length:Int)-1:=aO (by omega);simp[XT];refine qo f.facts.length (yf f) (λk=>[.int 0,.int k]) (λ_=>[]) ?_ (λk hk ho=>?_) (λk hk ho hb=>?_) (λhj=>?_)
 .simp
 case' refine_2=>have hb:yf f k=yf f k:=rfl
 case' refine_3=>rw[hb]
 case refine_4=>simp[aiw,NJ,hj]
 all_goals
  have hw:=br hk (by omega);have hs:f.facts.getD k default=f.facts[k]:=by simp[hk]
  clear hb;generalize hX:yf f k=X at*;unfold yf at hX;simp only[hs] at hX;simp[aiw,NJ,hk,cT,hw];refine⟨_,eX _ _ _,?_⟩;cases a1:wi f.facts[k].kind 0 4
  .simp[a1] at hX ⊢
   first|exact hX|(exfalso;omega)
  simp[a1] at hX ⊢;refine⟨_,eX _ _ _,?_⟩;rw[oG] at hX;cases a2:wi f.facts[k].at_ 0 ((f.signs.length:Int)-1)
  .simp[a2] at hX ⊢
   first|exact hX|(exfalso;omega)
  simp[a2] at hX ⊢;refine⟨_,eX _ _ _,?_⟩;cases a3:wi f.facts[k].n 0 1
  .simp[a3] at hX ⊢
   first|exact hX|(exfalso;omega)
  simp[a3] at hX ⊢;by_cases k0:k=0
  .subst k0;simp at hX ⊢
   first|(exfalso;omega)|done
  .have bC:i64.wrap ((k:Int)-1)=(k:Int)-1:=aO (by omega);have cE:((k:Int)-1).toNat=k-1:=by omega
   have mQ:k-1<f.facts.length:=by omega
   simp[k0,mQ] at hX;simp[k0,bC,cE,mQ];refine⟨by omega,_,aae _ _,_,aae _ _,?_⟩;have ho:=akp [qO f.facts[k-1].at_ f.facts[k].at_,qO f.facts[k-1].kind f.facts[k].kind] (by simp);simp only[qA,Ah] at ho;rw[or2] at ho;refine⟨_,ho,?_⟩;have ha:=akE f.facts[k-1] f.facts[k];generalize (if qO f.facts[k-1].at_ f.facts[k].at_=0 then qO f.facts[k-1].kind f.facts[k].kind else qO f.facts[k-1].at_ f.facts[k].at_)=n at*;clear ho;by_cases e:Ao f.facts[k-1] f.facts[k]
   .have hn:¬0<=n:=λh=>ha.1 h e;simp[e] at hX;simp[hn]
    first|done|(exfalso;omega)
   .have hn:0<=n:=ha.2 e;simp[e] at hX;simp[hn]
    first|exact hX|(exfalso;omega)
def xK (f:File)(i:Nat):Int:=
 let x:=f.alters.getD i default
 if wi x.at_ ((if i=0 then 0 else(f.alters.getD (i-1) default).at_)+1) f.signs.length=false then 1 else if wi x.sum 1 1099511627776=false then 3 else 0
structure PaperOK (r:Realm) (f:File):Prop where
 full:(f.signs.length<=40/\f.alters.length<=4)/\f.acts.length<=100/\f.facts.length<=200
 bill:BillOK r f.bill
 ne:f.signs≠[]
 signs:fU f.signs.length (Dm r f)=0
 alters:fU f.alters.length (xK f)=0
 acts:fU f.acts.length (vt r f)=0
 facts:fU f.facts.length (yf f)=0
def avd (r:Realm)(hs:Small r)(f:File)(Ff:f.OK):∃d,ah T 24 [aQ r,cu f] d/\qy (PaperOK r f) d:=by
 refine ah.ex_of_tree rfl akR ayy ?_;simp[XO];by_cases hf:(f.signs.length<=40/\f.alters.length<=4)/\f.acts.length<=100/\f.facts.length<=200
 case neg=>
  rw[if_pos (by omega)];exact .no (λh=>hf h.full) (by decide)
 rw[if_neg (by omega)];obtain⟨d,hb,e,rfl,he⟩:=aAy r hs f.bill;refine⟨_,hb,?_⟩;by_cases e0:e=0
 case neg=>
  simp[e0];exact .no (λh=>e0 (he.2 h.bill)) e0
 have Li:=he.1 e0;simp[e0];by_cases au:f.signs=[]
 .simp[au];exact .no (λh=>h.ne au) (by decide)
 simp[au];refine qo f.signs.length (Dm r f) (λk=>[.int 0,.int k]) (λ_=>[]) ?_ (λk hk ho=>?_) (λk hk ho hb=>?_) (λhj=>?_)
 .simp
 .have hw:=br hk (by omega);simp[VK,Hf,hk,hw];refine⟨_,ahr r hs f Li.parts k hk (by omega),?_⟩;simp[ho]
 .simp[VK,Hf,hk];refine⟨_,ahr r hs f Li.parts k hk (by omega),?_⟩;simp[ho];exact .no (λh=>ho (by rw[<-hb];exact h.signs)) ho
 simp[VK,Hf];have lz:∀k,k<f.alters.length->(∀j,j<k->xK f j=0)->i64.wrap ((if k=0 then 0 else(f.alters.getD (k-1) default).at_)+1)=(if k=0 then 0 else(f.alters.getD (k-1) default).at_)+1:=by
  intro k hk hj;refine aO ?_;by_cases k0:k=0
  .rw[if_pos k0];omega
  .rw[if_neg k0];have h1:=hj (k-1) (by omega);have bC:k-1<f.alters.length:=by omega
   have h2:=(Ff.2.2.1.2 _ (bS bC)).1;have h3:f.alters.getD (k-1) default=f.alters[k-1]:=by simp[bC]
   unfold xK at h1;rw[h3] at h1 ⊢;simp only at h1;generalize (if k-1=0 then(0:Int) else(f.alters.getD (k-1-1) default).at_)=L0 at h1;split at h1
   .cases h1
   .rename_i hh;simp[wi] at hh;unfold aZ at h2;omega
 refine aL.scan f.alters.length (λk=>xK f k=0) (λk=>[.int 0,.int (if k=0 then 0 else(f.alters.getD (k-1) default).at_),.int k]) (λ_=>[]) ?_ (λk hk sT ho=>?_) (λk hk sT ho=>?_) (λyA=>?_)
 .simp
 .have hw:=br hk (by omega);have hl:=lz k hk sT;generalize hL:(if k=0 then 0 else(f.alters.getD (k-1) default).at_)=L at*;have hs:f.alters.getD k default=f.alters[k]:=by simp[hk]
  unfold xK at ho;simp only[hs,hL] at ho;simp[VL,Hg,hk,hl];refine⟨_,eX _ _ _,?_⟩;cases a1:wi f.alters[k].at_ (L+1) f.signs.length
  .simp[a1] at ho
  simp[a1] at ho ⊢;refine⟨_,eX _ _ _,?_⟩;simp[ho,hw]
 .have hl:=lz k hk sT;have Fz:=Rb hk sT ho;generalize hL:(if k=0 then 0 else(f.alters.getD (k-1) default).at_)=L at*;have hs:f.alters.getD k default=f.alters[k]:=by simp[hk]
  have bad:∀e:Int,e≠0->qy (PaperOK r f) (.int e):=λe h=>.no (λh=>ho (by rw[<-Fz];exact h.alters)) h;unfold xK at ho;simp only[hs,hL] at ho;simp[VL,Hg,hk,hl];refine⟨_,eX _ _ _,?_⟩;cases a1:wi f.alters[k].at_ (L+1) f.signs.length
  .simp;exact bad 1 (by decide)
  simp[a1] at ho ⊢;refine⟨_,eX _ _ _,?_⟩;simp[ho];exact bad 3 (by decide)
 have yA:=Re yA;simp[VL,Hg];refine⟨_,avg r hs f Li.parts (by omega) (by omega),?_⟩;by_cases e3:fU f.acts.length (vt r f)=0
 case neg=>
  simp[e3];exact .no (λh=>e3 h.acts) e3
 simp[e3];refine⟨_,avi f (by omega) (by omega),?_⟩;exact⟨_,rfl,λh=>⟨hf,Li,au,hj,yA,e3,h⟩,λh=>h.facts⟩
structure SignOK (r:Realm) (f:File) (i:Nat) (s:Sign):Prop where
 part:0<=s.part/\s.part<=f.bill.parts-1
 who:0<=s.who/\s.who<r.firms.length
 city:0<=s.city/\s.city<r.cities.length
 day:od f i<=s.day/\s.day<=100000
 fits:yg r f i=true
 once:Iw f i s=false
def PaperOK.sign {r:Realm}{f:File}(h:PaperOK r f)(i:Nat)(hi:i<f.signs.length):SignOK r f i f.signs[i]:=by
 have h1:=Ra h.signs i hi;have hs:f.signs.getD i default=f.signs[i]:=by simp[hi]
 unfold Dm at h1;simp only[hs] at h1;split at h1
 .cases h1
 rename_i a1;split at h1
 .cases h1
 rename_i a2;split at h1
 .cases h1
 rename_i a3;split at h1
 .cases h1
 rename_i a4;split at h1
 .cases h1
 rename_i a5;simp[wi,aD] at a1 a2 a3;exact⟨⟨by omega,by omega⟩,⟨by omega,by omega⟩,⟨by omega,by omega⟩,⟨by omega,by omega⟩,by simpa using a4,by simpa using a5⟩
structure IF (r:Realm) (f:File) (i:Nat) (a:Act):Prop where
 part:0<=a.part/\a.part<=f.bill.parts-1
 city:0<=a.city/\a.city<r.cities.length
 kind:0<=a.kind/\a.kind<=9
 fits:vq r f a=true
 day:Tt f i a<=a.day/\a.day<=100000
def PaperOK.day {r:Realm}{f:File}(h:PaperOK r f):0<=f.bill.day/\f.bill.day<=100000:=by
 have:=h.bill.range;unfold zG at this;omega
def ab8 {r:Realm}{f:File}(h:PaperOK r f):∀i,i<f.signs.length->0<=od f i
 |0,_=>by simp[od];exact h.day.1
 |i+1,hi=>by
  have h1:=(h.sign i (by omega)).day.1;have h2:=ab8 h i (by omega);have e:od f (i+1)=f.signs[i].day:=by simp[od,show i<f.signs.length by omega]
  omega
def axc {r:Realm}{f:File}{i:Nat}(hi:i<f.signs.length)(h:yg r f i=true)(hk:f.signs[i].kind=1\/f.signs[i].kind=4):1<=f.signs[i].sum/\f.signs[i].sum<=1099511627776:=by
 have hs:f.signs.getD i default=f.signs[i]:=by simp[hi]
 unfold yg at h;rw[hs] at h;unfold KS at h;split at h
 .cases h
 split at h
 .cases h
 unfold Rg at h;rcases hk with hk|hk
 .simp[hk,wi] at h;omega
 .simp[hk,wi] at h;omega
def PaperOK.sums {r:Realm}{f:File}(h:PaperOK r f):SumsOK f:=by
 have hr:=h.bill.range;unfold zG at hr;refine⟨by omega,by omega,λa ha=>?_,λs hs hk=>?_⟩
 .obtain⟨i,hi,rfl⟩:=fm ha;have h1:=Ra h.alters i hi;have hs:f.alters.getD i default=f.alters[i]:=by simp[hi]
  unfold xK at h1;simp only[hs] at h1;generalize (if i=0 then(0:Int) else(f.alters.getD (i-1) default).at_)=L at h1;split at h1
  .cases h1
  split at h1
  .cases h1
  rename_i a1;simp[wi] at a1;omega
 .obtain⟨i,hi,rfl⟩:=fm hs;exact axc hi (h.sign i hi).fits hk
def Iy (fr to:Int)(u:Usance):Bool:=decide (u.fr=fr)&&decide (u.to=to)
def Ix (l:List Usance)(fr to:Int):Int×Int:=match l.find? (Iy fr to) with|some u=>(u.days,0)|none=>(0,4)
def akt (r:Realm)(fr to:Int)(hl:r.usances.length<=100000):ah T 89 [aQ r,.int fr,.int to] (.tup [.int (Ix r.usances fr to).1,.int (Ix r.usances fr to).2]):=by
 refine .of_tree rfl aaY ajz ?_;simp[OM];unfold Ix;refine aL.scan r.usances.length (λk=>Iy fr to (r.usances.getD k default)=false) (λk=>[.int 0,.int 0,.int k]) (λ_=>[]) ?_ (λk hk hj ar=>?_) (λk hk hj ar=>?_) (λhj=>?_)
 .simp
 .have hw:=br hk (by omega);have hn:¬(r.usances[k].fr=fr/\r.usances[k].to=to):=by simpa [Iy,hk] using ar
  simp[C8,wM,hk,hw,hn]
 .have lu:=BF hk (by simpa [hk] using ar) (λj bB=>by have:=hj j bB;simpa [show j<r.usances.length by omega] using this);have hc:r.usances[k].fr=fr/\r.usances[k].to=to:=by simpa [Iy,hk] using ar
  rw[lu];simp[C8,wM,hk,hc]
 .have lu:=E2 (l:=r.usances) (p:=Iy fr to) (λj bB=>by have:=hj j bB;simpa [bB] using this);rw[lu];simp[C8,wM]
def I3 (d:Int)(t:Tenor):Int×Int:=((DX d t).choose,(DX d t).choose_spec.choose)
def aaL (d:Int)(t:Tenor):ah T 122 [.int d,py t] (.tup [.int (I3 d t).1,.int (I3 d t).2]):=(DX d t).choose_spec.choose_spec
def xN (l:List Usance)(b:Bill)(seen:Int):Int×Int:=
 if b.tenor.kind=0 then(seen,0) else if b.tenor.kind=1 then I3 seen b.tenor else if b.tenor.kind=2 then I3 b.day b.tenor
 else if b.tenor.kind=4 then(i64.wrap (b.day+(Ix l b.city b.pay).1),(Ix l b.city b.pay).2) else(b.tenor.n,0)
def ak5 (r:Realm)(hr:RightD r)(b:Bill)(seen:Int):ah T 76 [aQ r,dE b,.int seen] (.tup [.int (xN r.usances b seen).1,.int (xN r.usances b seen).2]):=by
 have SR:D.agg [D.int b.tenor.kind,D.int b.tenor.n,D.int b.tenor.unit]=py b.tenor:=rfl;refine .of_tree rfl xM zS ?_;unfold xN;by_cases h0:b.tenor.kind=0
 .simp[oV,h0]
 by_cases h1:b.tenor.kind=1
 .have h:=aaL seen b.tenor;have cB:(b.tenor.kind=1)=True:=eq_true h1;simp[oV,h0,cB];exact⟨_,h,by simp⟩
 by_cases h2:b.tenor.kind=2
 .have h:=aaL b.day b.tenor;have fa:(b.tenor.kind=2)=True:=eq_true h2;simp[oV,h0,h1,fa];exact⟨_,h,by simp⟩
 by_cases h4:b.tenor.kind=4
 .have h:=akt r b.city b.pay (by have:=hr.small.us;omega);have om:(b.tenor.kind=4)=True:=eq_true h4;simp[oV,h0,h1,h2,om];exact⟨_,h,by simp⟩
 .simp[oV,h0,h1,h2,h4]
def L8 (r:Realm)(pay cd:Int)(x:Int×Int):Int×Int:=
 if x.2≠0 then(0,x.2) else if eu x.1=false\/100000<i64.wrap (x.1+cd) then(0,3) else lS r pay (i64.wrap (x.1+cd))
def x9 (r:Realm)(b:Bill)(seen cd:Int):Int×Int:=
 if il r≠0\/aD b.city r.cities.length=false\/aD b.pay r.cities.length=false\/eu b.day=false then(0,1)
 else if((b.tenor.kind<0\/5<=b.tenor.kind)\/b.tenor.unit<0)\/2<=b.tenor.unit then(0,1)
 else if((¬seen=-1/\eu seen=false)\/cd<0)\/20000<cd then(0,1)
 else if Dl b.tenor=true/\seen=-1 then(0,4)
 else L8 r b.pay cd (xN r.usances b seen)
def aj7 (r:Realm)(hr:RightD r)(b:Bill)(seen cd:Int):ah T 37 [aQ r,dE b,.int seen,.int cd] (.tup [.int (x9 r b seen cd).1,.int (x9 r b seen cd).2]):=by
 have SR:D.agg [D.int b.tenor.kind,D.int b.tenor.n,D.int b.tenor.unit]=py b.tenor:=rfl;have ki:=N2 r hr.small;obtain⟨G,hG⟩:∃G,G=x9 r b seen cd:=⟨_,rfl⟩
 rw[<-hG];unfold x9 at hG;refine .of_tree rfl Pz Zb ?_;simp[It];refine⟨_,ki,?_⟩;by_cases h0:il r=0
 case neg=>simp[h0] at hG ⊢;simp[hG]
 simp[h0] at hG ⊢;refine⟨_,Cl r b.city,?_⟩;cases h1:aD b.city r.cities.length
 .simp[h1] at hG ⊢;simp[hG]
 simp[h1] at hG ⊢;refine⟨_,Cl r b.pay,?_⟩;cases h2:aD b.pay r.cities.length
 .simp[h2] at hG ⊢;simp[hG]
 simp[h2] at hG ⊢;refine⟨_,we b.day,?_⟩;cases h3:eu b.day
 .simp[h3] at hG ⊢;simp[hG]
 simp[h3] at hG ⊢;have hp:0<=b.pay/\b.pay<r.cities.length:=by simpa [aD] using h2
 by_cases h4:((b.tenor.kind<0\/5<=b.tenor.kind)\/b.tenor.unit<0)\/2<=b.tenor.unit
 .rw[if_pos h4] at hG ⊢;simp[hG]
 rw[if_neg h4] at hG ⊢;have fin:G=L8 r b.pay cd (xN r.usances b seen)->0<=cd->cd<=20000->∃d,ah T 76 [aQ r,dE b,D.int seen] d/\
  if(d.tget 1).i=0 then ∃d1,ah T 74 [d.tget 0] d1/\(if d1.b=false\/100000<i64.wrap ((d.tget 0).i+cd) then 0=G.1/\3=G.2 else
        ∃d2,ah T 77 [aQ r,D.int b.pay,D.int (i64.wrap ((d.tget 0).i+cd))] d2/\d2.tget 0=D.int G.1/\d2.tget 1=D.int G.2)
  else 0=G.1/\d.tget 1=D.int G.2:=by
  intro hG yw jv;refine⟨_,ak5 r hr b seen,?_⟩;unfold L8 at hG;generalize xN r.usances b seen=B at*;obtain⟨n,e⟩:=B;by_cases he:e=0
  .simp[he] at hG ⊢;refine⟨_,we n,?_⟩;cases hd:eu n
   .simp[hd] at hG ⊢;simp[hG]
   have gu:0<=n/\n<=100000:=by simpa [eu] using hd
   have hw:i64.wrap (n+cd)=n+cd:=aO (by omega);simp[hd,hw] at hG ⊢;by_cases hle:100000<n+cd
   .rw[if_pos hle] at hG ⊢;simp[hG]
   .rw[if_neg hle] at hG ⊢;refine⟨_,WM r hr.halts b.pay (n+cd) hp hr.cities (by omega) (by omega),?_⟩;simp[hG]
  .simp[he] at hG ⊢;simp[hG]
 by_cases hs:seen=-1
 .simp[hs] at fin hG ⊢;by_cases h5:cd<0\/20000<cd
  .rw[if_pos h5] at hG ⊢;simp[hG]
  rw[if_neg h5] at hG ⊢;refine⟨_,DT b.tenor,?_⟩;cases h6:Dl b.tenor
  .simp[h6] at hG ⊢;exact fin hG (by omega) (by omega)
  .simp[h6] at hG ⊢;simp[hG]
 .simp[hs] at fin hG ⊢;refine⟨_,we seen,?_⟩;cases hk:eu seen
  .simp[hk] at hG ⊢;simp[hG]
  simp[hk] at hG ⊢;by_cases h5:cd<0\/20000<cd
  .rw[if_pos h5] at hG ⊢;simp[hG]
  rw[if_neg h5] at hG ⊢;exact⟨⟨_,DT b.tenor⟩,fin hG (by omega) (by omega)⟩
def amy {r:Realm}(hr:RightD r)(b:Bill)(seen cd:Int):qU r b seen cd=x9 r b seen cd:=by
 have h:=(OZ r hr b seen cd).det (aj7 r hr b seen cd);simp at h;exact Prod.ext h.1 h.2
instance (a b:Int):Decidable (ajl a b):=by unfold ajl;infer_instance
def aw8 {r:Realm}(hh:xr r)(city:Int){d:Int}(h0:0<=d)(hd:d<=100001):(lS r city d).2=0->0<=(lS r city d).1/\(lS r city d).1<=100000:=by
 unfold lS;generalize r.cities.getD city.toNat default=c;generalize gC r city=o;have key:∀(n:Nat) (d:Int),0<=d->d<=100001->(100002-d).toNat<=n->(tH r c o n d).2=0->0<=(tH r c o n d).1/\(tH r c o n d).1<=100000:=by
  intro n
  induction n with
  |zero=>intro d h0 h1 h2;omega
  |succ n ih=>
   intro e h1 h2 h3;have Cd:=WU hh o (100002-e).toNat e h2;rw[aje];change e<=jZ r o e/\jZ r o e<=100001 at Cd;generalize jZ r o e=x at*;have pH:=afx (c:=c) (d:=x);by_cases he:(jz c x).2=0
   .obtain⟨g1,g2,g3⟩:=pH he;rw[if_neg (by simp[he])];by_cases hy:(jz c x).1=x
    .rw[if_pos hy];intro _;have e1:((x,0):Int×Int).1=x:=rfl;omega
    .rw[if_neg hy];exact ih _ (by omega) (by omega) (by omega)
   .rw[if_pos he];intro h;cases h
 exact key _ d h0 hd (aX _)
def aue {r:Realm}(hr:RightD r)(forum:Int)(f:File)(day:Int):eM r forum f day=-1\/(0<=eM r forum f day/\eM r forum f day<=100000):=by
 unfold eM;by_cases au:(ct f day).signs=[]
 .rw[if_pos au];exact .inl rfl
 rw[if_neg au,amy hr];generalize sd (ct f day)=sn;generalize max (pZ (mI r forum 6 (ct f day) day)) 0=g;by_cases he:(x9 r f.bill sn g).2=0
 case neg=>rw[if_pos he];exact .inl rfl
 rw[if_neg (by simp[he])];right;unfold x9 at he ⊢;split at he
 .cases he
 rename_i c1;rw[if_neg c1];split at he
 .cases he
 rename_i c2;rw[if_neg c2];split at he
 .cases he
 rename_i c3;rw[if_neg c3];split at he
 .cases he
 rename_i c4;rw[if_neg c4];generalize xN r.usances f.bill sn=B at*;unfold L8 at he ⊢;split at he
 .rename_i hb;exact absurd he hb
 rename_i c5;rw[if_neg c5];split at he
 .cases he
 rename_i c6;rw[if_neg c6];have hd:0<=B.1/\B.1<=100000:=by
  have:¬eu B.1=false:=λe=>c6 (.inl e);simpa [eu] using this
 have hw:i64.wrap (B.1+g)=B.1+g:=aO (by omega);rw[hw] at he c6 ⊢;exact aw8 hr.halts f.bill.pay (by omega) (by omega) he
def apb {r:Realm}(h:il r=0):IJ r/\xq r:=by
 unfold il at h;rw[Oc] at h;refine⟨λx hx=>?_,λg hg=>?_⟩
 .obtain⟨k,hk,rfl⟩:=fm hx;have h1:=h (eK (eU r) 200 (oc r)) (by simp);unfold eK at h1;split at h1
  .cases h1
  have h2:=Rc.1 h1 k (by simpa [eU] using hk);have h3:=(BG h2).2;simp[oc,aD,hk] at h3;omega
 .obtain⟨k,hk,rfl⟩:=fm hg;have h1:=h (sM r) (by simp);unfold sM at h1;split at h1
  .cases h1
  split at h1
  .rename_i h2;have h3:=(xJ.1 h2) k hk;simp[vE,aD,hk] at h3;omega
  .cases h1
def avn {r:Realm}{f:File}(G:Good r f)(hc:il r=0)(hP:PaperOK r f)(forum day:Int):PayOK r (dB r forum f day):=by
 have dt:=QY r forum f day;have uF:=G.few.signs;obtain⟨RV,rn⟩:=apb hc;have hS:=hP.sums.at_ day;have each:∀e,e∈nZ r forum f day->(0<=e.firm/\e.firm<r.firms.length)/\0<=e.sum/\e.sum<=1099511627776:=by
  intro e he;unfold nZ at he;obtain⟨k,hk,rfl⟩:=cr.1 he;have bf:k<(ct f day).signs.length:=fP.1 hk;have h1:=ank (v:=uT r forum f day) hS k (by omega) (by show(k:Int)<((ct f day).signs.length:Int);omega);refine⟨?_,by omega,h1.2⟩;have hm:(ct f day).signs[k]∈f.signs:=(Pg _).subset (bS bf);obtain⟨i,hi,e⟩:=fm hm;have h2:=(hP.sign i hi).who;have h3:(qZ (uT r forum f day) k).firm=((ct f day).signs[k]).who:=by
   show((ct f day).signs.getD (k:Int).toNat default).who=_;simp[bf]
  rw[h3,<-e];exact h2
 refine⟨λe he=>(each e (eH.1 he).1).1,λe he=>(each e (eH.1 he).1).2,RV,rn,?_⟩;exact gl (oZ _ _) (by omega)
def amd {r:Realm}(hr:RightD r){f:File}(h:PaperOK r f)(forum day:Int):eM r forum f day=-1\/(0<=eM r forum f day/\eM r forum f day<=100000/\0<=day):=by
 rcases aue hr forum f day with e|⟨h0,h1⟩
 .exact .inl e
 .have au:(ct f day).signs≠[]:=λe=>by unfold eM at h0;rw[if_pos e] at h0;omega
  obtain⟨s,hs⟩:=List.exists_mem_of_ne_nil _ au;have hp:=cN.1 List.all_takeWhile s hs;obtain⟨i,hi,rfl⟩:=fm ((Pg _).subset hs);have h2:=(h.sign i hi).day.1;have h3:=ab8 h i hi;simp at hp;exact .inr ⟨h0,h1,by omega⟩
def ao2 (r:Realm)(f:File)(q:Quote):Prop:=q.fails.length<=20/\Fb r f=true/\PaperOK r f
def ak8 (r:Realm)(hr:r.OK)(f:File)(Ff:f.OK)(q:Quote):∃d,ah T 7 [aQ r,cu f,lq q] d/\∃b:Bool,d=.bool b/\(b=true->ao2 r f q):=by
 refine ah.ex_of_tree rfl akQ ayn ?_;simp[XD];by_cases hl:q.fails.length<=20
 case neg=>
  have sU:¬((q.fails.length:Int)<=20):=by omega
  simp[hl,sU]
  try exact⟨⟨_,aif r f hr⟩,by simp⟩
 have sU:(q.fails.length:Int)<=20:=by omega
 simp[sU];refine⟨_,aif r f hr,?_⟩;cases e1:uu r f
 .simp
 have hs:Small r:=Q7 hr (by simp only[uu,ao] at e1;exact e1.1.1);simp;refine⟨_,avM r hs,?_⟩;by_cases e2:il r=0
 case neg=>simp[e2]
 obtain⟨d,hd,e,rfl,he⟩:=avd r hs f Ff;simp[e2];refine⟨_,hd,?_⟩;simp;by_cases e0:e=0
 .exact .inr ⟨e0,hl,by simp[Fb,e1,e2],he.1 e0⟩
 .exact .inl e0
def xm:Order:=⟨⟨#[103,101,110,101,118,97]⟩,false,[],[⟨0,.mk 1 1 []⟩,⟨1,.mk 1 1 []⟩,⟨2,.mk 2 15 []⟩]⟩
def bx:Realm:=⟨[⟨#[102,114,97,110,99]⟩],[⟨⟨#[76,121,111,110]⟩,0,0,[],[],[]⟩],[⟨3⟩,⟨5⟩],[⟨⟨#[97]⟩,0,1⟩,⟨⟨#[98]⟩,0,0⟩],[xm],[],[],[]⟩
def zX:Bill:=⟨0,1,0,1000,0,⟨3,40,0⟩,2,0,0,-1,0,1,1⟩
def cn (s d:Int):File:=⟨zX,[⟨0,0,0,-1,-1,0,2,0,0⟩,⟨1,0,1,-1,-1,s,3,0,0⟩],[],[],[⟨0,0,d⟩,⟨0,1,1⟩]⟩
def ib:Quote:=⟨100,[⟨1,1⟩,⟨1,1⟩,⟨1,1⟩,⟨1,10⟩,⟨1,1⟩,⟨1,2⟩,⟨1,1⟩,⟨1,1⟩,⟨1,1⟩,⟨1,1⟩]⟩
def aAG:ah T 15 [] (aQ bx):=by
 refine zyw 2 ayo ?_;simp[XE,zzy,aQ,bx,xm,strs,px,groups,firms,orders,rules,choices,usances,rates,halts,-aG1]
 try rfl
def DB:ah T 17 [] (lq ib):=by
 refine zyw 3 ayp ?_;simp[XF];refine aL.forRounds 10 (λk=>[.int k]) (λk=>[.list ((List.range 10).map λi=>if i<k then kK ⟨1,1⟩ else kK ⟨0,0⟩)]) ?_ (λk hk=>?_) ?_
 .simp
  try rfl
 .have hw:=br hk (by omega);have bf:(k:Int)<10:=by omega
  rcases k with _|_|_|_|_|_|_|_|_|_|k
  all_goals first|omega|skip
  all_goals
   simp[ait,NG]
   first|rfl|exact⟨aO (by omega),rfl⟩
 .simp[ait,NG]
  try rfl
def DA (s d:Int):ah T 18 [.int s,.int d] (cu (cn s d)):=by
 refine zyw 11 aym ?_;simp[XC]
 try rfl
def aAQ:Small bx:=by
 refine⟨by decide,by decide,by decide,by decide,by decide,by decide,by decide,by decide,?_,?_,?_⟩
 .intro c hc;simp[bx] at hc;rcases hc with rfl;simp
 .intro o ho;simp[bx] at ho;rcases ho with rfl;simp[xm]
 .intro x hx;simp[bx] at hx
def IB:RightD bx:=⟨aAQ,by decide,λh hh=>by simp[bx] at hh⟩
def Z0:Right bx:=by
 have n:∀a k:Int,0<=a->a<=100->0<=k->k<=100->(Tm.mk a k []).OK:=λa k h1 h2 h3 h4=>.mk _ _ [] (LY (by omega)) (LY (by omega)) (by decide) (λ_ h=>by cases h);refine⟨?_,by decide,?_⟩
 .intro o ho;obtain rfl:o=xm:=by simpa [bx] using ho
  exact⟨by decide,λch h=>by simp[xm] at h⟩
 .intro o ho;obtain rfl:o=xm:=by simpa [bx] using ho
  refine⟨⟨⟨by decide,λch h=>by simp[xm] at h⟩,by decide,?_⟩,by decide⟩;intro x hx;simp[xm] at hx;rcases hx with rfl|rfl|rfl
  all_goals exact⟨LY (by decide),n _ _ (by decide) (by decide) (by decide) (by decide)⟩
def ZU (s d:Int):FewS (cn s d):=⟨by simp[cn],by simp[cn],by simp[cn],by simp[cn]⟩
def aAK (s d:Int)(h1:(ct (ct (cn s d) 4) 4).signs≠[])(h2:sd (ct (ct (cn s d) 4) 4)=-1)(h3:max (pZ (mI bx 0 6 (ct (ct (cn s d) 4) 4) 4)) 0=0):eM bx 0 (ct (cn s d) 4) 4=40:=by
 have h5:lS bx 0 40=(40,0):=by kernel_rfl
 have h4:qU bx zX (-1) 0=lS bx 0 (40+0):=abI (b:=zX) IB (by kernel_rfl) (by decide) (by decide) (by decide) rfl rfl (by decide) (by omega) (by show(40:Int)+0<=100000;omega);unfold eM;rw[if_neg h1,h2,h3,show(ct (cn s d) 4).bill=zX from rfl,h4,show(40:Int)+0=40 from rfl,h5];simp
def ZT (s d:Int)(l:List Effect)(h1:(ct (ct (cn s d) 4) 4).signs≠[])(h2:sd (ct (ct (cn s d) 4) 4)=-1)(h3:max (pZ (mI bx 0 6 (ct (ct (cn s d) 4) 4) 4)) 0=0)
 (h:((List.range (ct (cn s d) 4).signs.length).map λ(k:Nat)=>qZ ⟨bx,0,4,ct (cn s d) 4,Iv (mI bx 0 0 (ct (cn s d) 4) 4),40⟩ k).filter ma=l):dB bx 0 (cn s d) 4=l:=by
 unfold dB nZ uT;rw[aAK s d h1 h2 h3];exact h
def ZV:dB bx 0 (cn 1000 0) 4=[⟨1,1,1,1,0,1000,false⟩]:=ZT 1000 0 _ (by decide) (by kernel_rfl) (by kernel_rfl) (by kernel_rfl)
def ajQ:dB bx 0 (cn 1000 1) 4=[⟨0,0,0,1,0,1000,true⟩,⟨1,1,1,1,0,1000,false⟩]:=ZT 1000 1 _ (by decide) (by kernel_rfl) (by kernel_rfl) (by kernel_rfl)
def OT:dB bx 0 (cn 600 1) 4=[⟨0,0,0,1,0,1000,true⟩,⟨1,1,1,1,0,600,false⟩]:=ZT 600 1 _ (by decide) (by kernel_rfl) (by kernel_rfl) (by kernel_rfl)
def ZZ:jf ib=0:=by decide
def ajV:nG ib.fails:=(G1 ZZ).2.2
def aAJ:IJ bx:=by
 intro f hf;simp[bx] at hf;rcases hf with rfl|rfl<;>decide
def ajP:xq bx:=by
 intro g hg;simp[bx] at hg;rcases hg with rfl|rfl<;>decide
def ZX {l:List Effect}(h1:∀e,e∈l->(0<=e.firm/\e.firm<2)/\0<=e.sum/\e.sum<=1000)(h2:l.length<=2):PayOK bx l:=
 ⟨λe he=>(h1 e he).1,λe he=>by have:=(h1 e he).2;omega,aAJ,ajP,by omega⟩
def Z1 {l l':List Effect}{n:Int}(hp:∀e,e∈l'↔e∈l)(hs:l'.Pairwise λa b=>a.sum<=b.sum)(h0:∀e,e∈l->0<=e.sum/\e.sum<=1000)(h:(ir (dp bx l ib.fails) (l'.map (·.sum))).1=n):gL bx l ib.fails=n:=by
 rw[<-ajK (r:=bx) ajV hp hs (λe he=>by have:=h0 e he;omega),h]
def ajW:gL bx [⟨1,1,1,1,0,1000,false⟩] ib.fails=900:=Z1 (l':=[⟨1,1,1,1,0,1000,false⟩]) (λe=>Iff.rfl) (by simp) (by simp) (by kernel_rfl)
def aAR:gL bx [⟨0,0,0,1,0,1000,true⟩,⟨1,1,1,1,0,1000,false⟩] ib.fails=950:=Z1 (l':=[⟨0,0,0,1,0,1000,true⟩,⟨1,1,1,1,0,1000,false⟩]) (λe=>Iff.rfl) (by simp) (by simp) (by kernel_rfl)
def ajX:gL bx [⟨0,0,0,1,0,1000,true⟩,⟨1,1,1,1,0,600,false⟩] ib.fails=770:=Z1 (l':=[⟨1,1,1,1,0,600,false⟩,⟨0,0,0,1,0,1000,true⟩]) (λe=>by simp[or_comm]) (by simp) (by simp) (by kernel_rfl)
def IC (s d:Int){l:List Effect}{n:Int}(hl:dB bx 0 (cn s d) 4=l)(hw:gL bx l ib.fails=n):j1 bx 0 (cn s d) 4 ib=(n,0):=by
 unfold j1;rw[if_neg (by rw[ZZ];simp;decide),hl,hw]
def ZW (s d:Int)(h1:(ct (cn s d) 4).signs≠[])(h2:sd (ct (cn s d) 4)=-1)(h3:max (pZ (mI bx 0 6 (ct (cn s d) 4) 4)) 0=0):eM bx 0 (cn s d) 4=40:=by
 have h5:lS bx 0 40=(40,0):=by kernel_rfl
 have h4:qU bx zX (-1) 0=lS bx 0 (40+0):=abI (b:=zX) IB (by kernel_rfl) (by decide) (by decide) (by decide) rfl rfl (by decide) (by omega) (by show(40:Int)+0<=100000;omega);unfold eM;rw[if_neg h1,h2,h3,show(cn s d).bill=zX from rfl,h4,show(40:Int)+0=40 from rfl,h5];simp
def ajR:eM bx 0 (cn 1000 0) 4=40:=ZW 1000 0 (by decide) (by kernel_rfl) (by kernel_rfl)
def ajS:eM bx 0 (cn 1000 1) 4=40:=ZW 1000 1 (by decide) (by kernel_rfl) (by kernel_rfl)
def ajT:eM bx 0 (cn 600 1) 4=40:=ZW 600 1 (by decide) (by kernel_rfl) (by kernel_rfl)
def aAI:ah T 16 [aQ bx,ints [0,1],lq ib] (.tup [.int 50000000,.int 0]):=by
 have hc:=abm bx [0,1] ib (by intro g hg;simp at hg;rcases hg with rfl|rfl<;>decide) ajP ajV (by decide);rw[show qK bx [0,1] ib.fails=50000000 by kernel_rfl] at hc;have hk:=OY ib (by decide);rw[ZZ] at hk;refine zyw 4 ayI ?_;simp[XX];refine⟨_,hk,?_⟩;refine aL.forRounds 2 (λk=>[.bool false,.int k]) (λ_=>[]) ?_ (λk hk=>?_) ?_
 .simp
 .rcases k with _|_|k
  .simp[VM,Hh,ints];decide
  .simp[VM,Hh,ints];decide
  .omega
 .simp[VM,Hh,ints];exact hc
def aki (r:Realm)(hr:Right r)(hd:RightD r)(forum:Int)(f:File)(day s:Int)(hf:FewS f)(ho:0<=forum/\forum<r.orders.length)(hp:PayOK r (dB r forum f day)):ah T 21 [aQ r,.int forum,cu f,.int day,.int s] (ints (iu r (dB r forum f day) s)):=by
 refine zyw 116 ayL ?_;simp[XZ];refine⟨_,Tk r forum,?_⟩;simp[ho];refine⟨_,aeQ r hr hd forum f day hf,?_⟩;exact acm r _ s hp.firms hp.len
def aAM:mc bx 0 (cn 1000 0) 4 ib=(891,0):=by
 unfold mc;rw[IC 1000 0 ZV ajW,ajR];decide
def aAN:mc bx 0 (cn 1000 1) 4 ib=(940,0):=by
 unfold mc;rw[IC 1000 1 ajQ aAR,ajS];decide
def aAO:mc bx 0 (cn 600 1) 4 ib=(762,0):=by
 unfold mc;rw[IC 600 1 OT ajX,ajT];decide
def ajU:PayOK bx (dB bx 0 (cn 1000 0) 4):=by rw[ZV];exact ZX (by simp) (by simp)
def aAP:PayOK bx (dB bx 0 (cn 1000 1) 4):=by rw[ajQ];exact ZX (by simp) (by simp)
def ZY:PayOK bx (dB bx 0 (cn 600 1) 4):=by rw[OT];exact ZX (by simp) (by simp)
def ajO {s d n:Int}(hp:PayOK bx (dB bx 0 (cn s d) 4))(h:j1 bx 0 (cn s d) 4 ib=(n,0)):ah T 10 [aQ bx,.int 0,cu (cn s d),.int 4,lq ib] (.tup [.int n,.int 0]):=by
 have:=DU bx Z0 IB 0 (cn s d) 4 (ZU s d) ib (by decide) hp
 rwa [h] at this
def ZS {s d n:Int}(hp:PayOK bx (dB bx 0 (cn s d) 4))(h:mc bx 0 (cn s d) 4 ib=(n,0))(hm:eM bx 0 (cn s d) 4=40):ah T 9 [aQ bx,.int 0,cu (cn s d),.int 4,lq ib] (.tup [.int n,.int 0]):=by
 have:=aaD bx Z0 IB 0 (cn s d) 4 (ZU s d) ib (by decide) hp (LY (by decide)) (.inr ⟨by omega,by omega,by omega⟩)
 rwa [h] at this
def aAL:ah T 19 [lq ⟨0,[]⟩] (.int 1):=by
 have:=OY ⟨0,[]⟩ (by decide)
 rwa [show jf ⟨0,[]⟩=1 by decide] at this
def aAH:ah T 21 [aQ bx,.int 0,cu (cn 600 1),.int 4,.int 601] (ints [1]):=by
 have:=aki bx Z0 IB 0 (cn 600 1) 4 601 (ZU 600 1) (by decide) ZY
 rwa [OT,show iu bx [⟨0,0,0,1,0,1000,true⟩,⟨1,1,1,1,0,600,false⟩] 601=[1] by decide] at this
def awY:ah T 6 [] (.bool true):=by
 refine zyw 1 ayq ?_;simp[XG];refine⟨_,aAG,_,DB,_,aAI,_,DA 1000 0,_,DB,_,ajO ajU (IC 1000 0 ZV ajW),_,DA 1000 0,_,DB,_,ZS ajU aAM ajR,_,DA 1000 1,_,DB,_,ZS aAP aAN ajS,_,DA 600 1,_,DB,_,ajO ZY (IC 600 1 OT ajX),_,DA 600 1,_,DB,_,ZS ZY aAO ajT,_,aAL,?_⟩;simp;exact⟨_,DA 600 1,_,aAH,av2 [1] (by decide)⟩
def akf (e:Effect):ah T 12 [gQ e] (.bool (ma e)):=by
 refine zyw 154 azf ?_;simp[Yq,ma];by_cases h:e.binds=1<;>by_cases h2:e.kind=1<;>simp[h,h2]
def aum (l:List Effect)(e:Effect):eT (l++[e])=max (eT l) e.sum.toNat:=by
 induction l with
 |nil=>simp[eT]
 |cons x l ih=>simp only[DK,eT,ih];omega
def auo {q:Quote}(h:jf q=0):jf ⟨q.perMille,nf⟩=0/\jf ⟨q.perMille,qI⟩=0:=by
 obtain⟨h0,h1,_⟩:=G1 h;have e1:nf.any mH=false:=by decide
 have e2:qI.any mH=false:=by decide
 unfold jf;constructor
 .rw[if_neg];have:nf.length=10:=by decide
  rintro(h|h|h|h)
  .exact absurd h0 (O4.2 h)
  .exact absurd h1 (O4.2 h)
  .exact h this
  .rw[e1] at h;cases h
 .rw[if_neg];have:qI.length=10:=by decide
  rintro(h|h|h|h)
  .exact absurd h0 (O4.2 h)
  .exact absurd h1 (O4.2 h)
  .exact h this
  .rw[e2] at h;cases h
def akq (r:Realm)(hr:r.OK)(forum:Int)(f:File)(Ff:f.OK)(day:Int)(uC:aZ day)(q:Quote)(SH:q.OK):
 ah T 5 [aQ r,.int forum,cu f,.int day,lq q] (.bool true):=by
 refine zyw 0 ayl ?_;simp[XB];obtain⟨d,hd,b,rfl,hb⟩:=ak8 r hr f Ff q;refine⟨_,awY,_,hd,?_⟩;cases b
 .simp
 obtain⟨uL,hg,hP⟩:=hb rfl;have G:=ao5 hr hg;have ki:il r=0:=by simp[Fb] at hg;exact hg.2
 have adQ:q.fails.length<=4294967296:=by omega
 have hp:=avn G ki hP forum day;have uD:=amd G.rightD hP forum day;have p1:=aaD r G.right G.rightD forum f day G.few q adQ hp uC uD;have w1:=DU r G.right G.rightD forum f day G.few q adQ hp;have wn:=DU r G.right G.rightD forum f day G.few ⟨q.perMille,nf⟩ (show nf.length<=4294967296 by decide) hp;have wa:=DU r G.right G.rightD forum f day G.few ⟨q.perMille,qI⟩ (show qI.length<=4294967296 by decide) hp;have m1:=Pj r G.right G.rightD forum f day G.few;have e1:=aag r G.right G.rightD forum f day G.few;have dt:=QY r forum f day;have uF:=G.few.signs;simp;refine⟨_,w1,_,p1,?_⟩;rcases ajJ r forum f day q with e|⟨hq,ho,e⟩
 .have e2:mc r forum f day q=(0,1):=by unfold mc;rw[e];simp
  rw[e,e2];simp
  try exact⟨_,e1⟩
 obtain⟨q0,q1,hQ⟩:=G1 hq;obtain⟨hnq,haq⟩:=auo hq;have en:j1 r forum f day ⟨q.perMille,nf⟩=(gL r (dB r forum f day) nf,0):=by
  unfold j1;rw[if_neg];exact λh=>h.elim (λh=>h hnq) (λh=>h ho)
 have ea:j1 r forum f day ⟨q.perMille,qI⟩=(gL r (dB r forum f day) qI,0):=by
  unfold j1;rw[if_neg];exact λh=>h.elim (λh=>h haq) (λh=>h ho)
 have rn:∀e,e∈dB r forum f day->0<=dZ r (oh r e)/\dZ r (oh r e)<10:=by
  intro e he;have hf:=hp.firms e he;have hg:=hp.fg (r.firms.getD e.firm.toNat default) (by
   rw[aE,aW (show e.firm.toNat<r.firms.length by omega)];exact bS _)
  exact hp.gr.at hg.1 hg.2
 rw[en,aAD (λe he=>(hp.sums e he).2) rn] at wn;rw[ea,aAB] at wa;have R9:eT (dB r forum f day)<=1099511627776:=afr λe he=>(hp.sums e he).2;have cT:=aAC (r:=r) (l:=dB r forum f day) hQ (λe he=>afs e he) R9;have jx:=ajM (r:=r) (l:=dB r forum f day) hQ;have hpE:mc r forum f day q=zq (gL r (dB r forum f day) q.fails) q.perMille (eM r forum f day) day:=by unfold mc;rw[e];simp
 rw[hpE,e];simp;refine⟨_,e1,?_⟩;have hlE:nZ r forum f day=nZ r forum f day:=rfl;have vI:dB r forum f day=(nZ r forum f day).filter ma:=rfl;have hW:=ajL (r:=r) (l:=dB r forum f day) hQ;have LR:∀e,e∈nZ r forum f day->ma e=true->0<=e.sum:=λe he hb=>(hp.sums e (eH.2 ⟨he,hb⟩)).1;generalize gL r (dB r forum f day) q.fails=w at*;rw[vI] at wn cT;clear vI;generalize nZ r forum f day=E at*;have hEl:E.length<=1000:=by omega
 refine aL.forRounds E.length (λk=>[.int (eT ((E.take k).filter ma)),.int k]) (λ_=>[]) ?_ (λk hk=>?_) ?_
 .simp[eT]
 .have fG:=br hk (by omega);have hs:=LR _ (bS hk);have yR:eT ((E.take (k+1)).filter ma)=if ma E[k] then max (eT ((E.take k).filter ma)) E[k].sum.toNat else eT ((E.take k).filter ma):=by
   rw[iP hk,IN];by_cases hb:ma E[k]=true
   .rw[if_pos hb,List.filter_cons_of_pos hb,List.filter_nil,aum]
   .rw[if_neg hb,List.filter_cons_of_neg hb,List.filter_nil,tU]
  rw[yR];simp[air,ND,hk,fG];generalize E[k]=e at*;refine⟨_,akf e,?_⟩;cases hb:ma e
  .simp
  .have hs:=hs hb;simp;generalize eT ((E.take k).filter ma)=m at*;split
   .rw[show((max m e.sum.toNat:Nat):Int)=e.sum by omega]
   .rw[show((max m e.sum.toNat:Nat):Int)=m by omega]
 .rw[DP];simp[air,ND];have yH:=afw (w:=w) (x:=q.perMille*max (eM r forum f day-day) 0) jx (Ae q0 (by omega));have mT:0<=(zq w q.perMille (eM r forum f day) day).1/\(zq w q.perMille (eM r forum f day) day).1<=w:=by
   unfold zq;split
   .exact⟨vi _,jx⟩
   split
   .exact⟨vi _,jx⟩
   .exact yH
  refine⟨⟨⟨mT,cT⟩,jx⟩,_,m1,?_⟩;clear mT p1 hpE;generalize eM r forum f day=due at*;unfold zq;by_cases h1:due=-1
  .simp[h1]
  obtain⟨n0,n1,n2⟩:=uD.resolve_left h1;have ws:i64.wrap (due-day)=due-day:=aO (by unfold aZ at uC;omega);by_cases h2:day<due/\20000<due-day
  .simp[h1,h2,ws]
  have fa:¬(day<due/\20000<due-day):=h2;have LD:i64.wrap ((if due<day then day else due)-day)=max (due-day) 0:=by
   split
   .rw[show max (due-day) 0=day-day by omega];exact aO (by omega)
   .rw[show max (due-day) 0=due-day by omega];exact ws
  have hD:=aaf w q.perMille (max (due-day) 0);have hn:=abH (w:=w) (pm:=q.perMille) (d:=max (due-day) 0) ⟨jx,hW⟩ ⟨q0,q1⟩ (by omega);rw[<-hn] at yH ⊢;generalize nJ w q.perMille (max (due-day) 0)=dd at*;obtain⟨d1,d2⟩:=dd;rw[if_neg (by simp[h1,fa,ws])];simp only[h1,fa,if_false];rw[show(if(D.int due).i<day then day else(D.int due).i)=(if due<day then day else due) from rfl,LD];refine⟨_,hD,?_⟩;refine⟨⟨⟨trivial,λh=>?_⟩,λh=>?_⟩,?_⟩
  .have h:d2=0:=h;subst h;simp at yH ⊢;exact(aO (by omega)).symm
  .have h:d2≠0:=h;simp[h]
  refine aL.forRounds 10 (λk=>[.int k]) (λk=>[.list ((List.range 10).map λi=>if i<k then kK ⟨1,1⟩ else kK ⟨0,0⟩),.list ((List.range 10).map λi=>if i<k then kK ⟨0,1⟩ else kK ⟨0,0⟩)]) ?_ (λk hk=>?_) ?_
  .simp
   try rfl
  .have hw:=br hk (by omega);have bf:(k:Int)<10:=by omega
   clear yH hn hD LD ws fa h2 h1 wn wa e1 m1 w1;rcases k with _|_|_|_|_|_|_|_|_|_|k
   all_goals first|omega|skip
   all_goals
     simp[ais,NF]
     first|exact⟨rfl,rfl⟩|exact⟨aO (by omega),rfl,rfl⟩
  .simp[ais,NF];refine⟨_,wn,_,wa,?_⟩;simp
end Rm
