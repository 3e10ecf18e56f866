import Derived.Test.YtbagcfebdgiihaaGreatDoorAAN
noncomputable section
open Go.IntKind (i64)
set_option linter.all false
namespace Rm
open Go Go.Proofs Cx
structure View where
 realm:Realm
 forum:Int
 day:Int
 file:File
 form:Int
 due:Int
 deriving Inhabited
def dV (x:View):D:=.agg [strs x.realm.currencies,pM x.realm.cities,groups x.realm.groups,firms x.realm.firms,orders x.realm.orders,usances x.realm.usances,rates x.realm.rates,halts x.realm.halts,.int x.forum,.int x.day,.int x.file.bill.drawer,.int x.file.bill.drawee,.int x.file.bill.payee,.int x.file.bill.sum,.int x.file.bill.currency,.int x.file.bill.tenor.kind,.int x.file.bill.tenor.n,.int x.file.bill.tenor.unit,.int x.file.bill.day,.int x.file.bill.city,.int x.file.bill.pay,.int x.file.bill.need,.int x.file.bill.rate,.int x.file.bill.flags,.int x.file.bill.parts,signs x.file.signs,alters x.file.alters,acts x.file.acts,facts x.file.facts,.int x.form,.int x.due]
@[simp] def aKi (x:View):(dV x).cells=[strs x.realm.currencies,pM x.realm.cities,groups x.realm.groups,firms x.realm.firms,orders x.realm.orders,usances x.realm.usances,rates x.realm.rates,halts x.realm.halts,.int x.forum,.int x.day,.int x.file.bill.drawer,.int x.file.bill.drawee,.int x.file.bill.payee,.int x.file.bill.sum,.int x.file.bill.currency,.int x.file.bill.tenor.kind,.int x.file.bill.tenor.n,.int x.file.bill.tenor.unit,.int x.file.bill.day,.int x.file.bill.city,.int x.file.bill.pay,.int x.file.bill.need,.int x.file.bill.rate,.int x.file.bill.flags,.int x.file.bill.parts,signs x.file.signs,alters x.file.alters,acts x.file.acts,facts x.file.facts,.int x.form,.int x.due]:=zyw
@[simp] def aNL (x:View):D.agg [strs x.realm.currencies,pM x.realm.cities,groups x.realm.groups,firms x.realm.firms,orders x.realm.orders,usances x.realm.usances,rates x.realm.rates,halts x.realm.halts,.int x.forum,.int x.day,.int x.file.bill.drawer,.int x.file.bill.drawee,.int x.file.bill.payee,.int x.file.bill.sum,.int x.file.bill.currency,.int x.file.bill.tenor.kind,.int x.file.bill.tenor.n,.int x.file.bill.tenor.unit,.int x.file.bill.day,.int x.file.bill.city,.int x.file.bill.pay,.int x.file.bill.need,.int x.file.bill.rate,.int x.file.bill.flags,.int x.file.bill.parts,signs x.file.signs,alters x.file.alters,acts x.file.acts,facts x.file.facts,.int x.form,.int x.due]=dV x:=zyw
@[simp] def aKB (x:View):jl 31 (dV x)=dV x:=zyw
@[simp] def aNW (x:View)(a0 a1 a2 a3 a4 a5 a6 a7 a8 a9 ji ke jk kf kg ln lq ls l9 ES ET EU EV EW RQ RR RS RT RU RV RW:D):D.agg (dp [a0,a1,a2,a3,a4,a5,a6,a7,a8,a9,ji,ke,jk,kf,kg,ln,lq,ls,l9,ES,ET,EU,EV,EW,RQ,RR,RS,RT,RU,RV,RW] 0 [strs x.realm.currencies,pM x.realm.cities,groups x.realm.groups,firms x.realm.firms,orders x.realm.orders,usances x.realm.usances,rates x.realm.rates,halts x.realm.halts,.int x.forum,.int x.day,.int x.file.bill.drawer,.int x.file.bill.drawee,.int x.file.bill.payee,.int x.file.bill.sum,.int x.file.bill.currency,.int x.file.bill.tenor.kind,.int x.file.bill.tenor.n,.int x.file.bill.tenor.unit,.int x.file.bill.day,.int x.file.bill.city,.int x.file.bill.pay,.int x.file.bill.need,.int x.file.bill.rate,.int x.file.bill.flags,.int x.file.bill.parts,signs x.file.signs,alters x.file.alters,acts x.file.acts,facts x.file.facts,.int x.form,.int x.due])=dV x:=zyw
@[simp] def aKg (x:View):(dV x).c 8=.int x.forum:=zyw
@[simp] def aKh (x:View):(dV x).c 9=.int x.day:=zyw
@[simp] def aJV (x:View):(dV x).c 10=.int x.file.bill.drawer:=zyw
@[simp] def aJW (x:View):(dV x).c 11=.int x.file.bill.drawee:=zyw
@[simp] def aJX (x:View):(dV x).c 12=.int x.file.bill.payee:=zyw
@[simp] def aJY (x:View):(dV x).c 13=.int x.file.bill.sum:=zyw
@[simp] def aJZ (x:View):(dV x).c 14=.int x.file.bill.currency:=zyw
@[simp] def aJ0 (x:View):(dV x).c 15=.int x.file.bill.tenor.kind:=zyw
@[simp] def aJ1 (x:View):(dV x).c 16=.int x.file.bill.tenor.n:=zyw
@[simp] def aJ2 (x:View):(dV x).c 17=.int x.file.bill.tenor.unit:=zyw
@[simp] def aJ3 (x:View):(dV x).c 18=.int x.file.bill.day:=zyw
@[simp] def aJ4 (x:View):(dV x).c 19=.int x.file.bill.city:=zyw
@[simp] def aJ5 (x:View):(dV x).c 20=.int x.file.bill.pay:=zyw
@[simp] def aJ6 (x:View):(dV x).c 21=.int x.file.bill.need:=zyw
@[simp] def aJ7 (x:View):(dV x).c 22=.int x.file.bill.rate:=zyw
@[simp] def aJ8 (x:View):(dV x).c 23=.int x.file.bill.flags:=zyw
@[simp] def aJ9 (x:View):(dV x).c 24=.int x.file.bill.parts:=zyw
@[simp] def aKa (x:View):(dV x).c 25=signs x.file.signs:=zyw
@[simp] def aKb (x:View):(dV x).c 26=alters x.file.alters:=zyw
@[simp] def aKc (x:View):(dV x).c 27=acts x.file.acts:=zyw
@[simp] def aKd (x:View):(dV x).c 28=facts x.file.facts:=zyw
@[simp] def aKe (x:View):(dV x).c 29=.int x.form:=zyw
@[simp] def aKf (x:View):(dV x).c 30=.int x.due:=zyw
@[simp] def aKq (x:View):jl 8 (dV x)=aR x.realm:=zyw
def qa:List Int->Int->Int
 |[],o=>o
 |x::l,o=>if x=0 then 0 else qa l (if x=2 then 2 else o)
def aw0 {l:List Int}{o:Int}(hn:∀x,x∈l->¬x=0)(h2:o=1\/o=2):qa l o=if o=2\/2∈l then 2 else 1:=by
 induction l generalizing o with
 |nil=>rcases h2 with h|h<;>simp[qa,h]
 |cons x l ih=>
  have hx:=hn x (by simp);unfold qa;rw[if_neg hx];by_cases e:x=2
  .rw[if_pos e,ih (λy hy=>hn y (by simp[hy])) (.inr rfl)];simp[e]
  .rw[if_neg e,ih (λy hy=>hn y (by simp[hy])) h2];simp[vV e]
def ahR:∀{l:List Int} {o:Int} {k:Nat} (hk:k<l.length),(∀j (hj:j<k),¬l[j]'(by omega)=0)->l[k]=0->qa l o=0
 |[],o,k,hk,_,_=>by simp at hk
 |x::l,o,0,hk,hj,h=>by
  unfold qa;rw[if_pos (by simpa using h)]
 |x::l,o,k+1,hk,hj,h=>by
  unfold qa;rw[if_neg (by have:=hj 0 (by omega);simpa using this)];exact ahR (k:=k) (by simpa using hk) (λj zH=>by have:=hj (j+1) (by omega);simpa using this) (by simpa using h)
def DE (l:List Int)(k:Nat):Int:=if 2∈l.take k then 2 else 1
def aw1 (l:List Int)(hl:l.length<=100000):ah T 114 [ints l] (.int (qa l 1)):=by
 refine zyt 99 aDC ?_;simp[aar];refine aG.scan l.length (λk=>l.getD k 0≠0) (λk=>[.int 0,.int (DE l k),.int k]) (λ_=>[]) ?_ (λk hk hj aE=>?_) (λk hk hj aE=>?_) (λhj=>?_)
 .simp[DE]
 .have hw:=be hk (by omega);have hx:¬l[k]=0:=by simpa [hk] using aE
  have hm:DE l (k+1)=if l[k]=2 then 2 else DE l k:=by
   unfold DE;rw[gA hk];simp only[dT,JU];by_cases e:l[k]=2
   .simp[e]
   .simp[e,vV e]
  rw[hm];simp[Ys,Ia,hk,hw,hx];by_cases e:l[k]=2<;>simp[e]
 .have hx:l[k]=0:=by simpa [hk] using aE
  simp[Ys,Ia,hk,hx];rw[ahR hk (λj zH=>by simpa [show j<l.length by omega] using hj j zH) hx]
 .simp[Ys,Ia];rw[aw0 (λx hx=>by obtain⟨j,iT,rfl⟩:=gQ hx;simpa [iT] using hj j iT) (.inl rfl)];simp[DE]
def kZ (v:View)(q sign:Int):Int:=gO (dH v.realm v.forum q ⟨v.file,sign,sign,-1,v.due,v.day⟩)
def ZT (v:View)(hr:Right v.realm)(hf:FewS v.file)(q sign:Int):ah T 115 [dV v,.int q,.int sign] (.int (kZ v q sign)):=by
 refine zyt 98 aDF ?_;simp[aau];refine⟨jK (dH v.realm v.forum q ⟨v.file,sign,sign,-1,v.due,v.day⟩),R3 v.realm hr v.forum q ⟨v.file,sign,sign,-1,v.due,v.day⟩ hf,Kb _⟩
def lu (f:File)(sign:Int)(n:Nat):Bool:=(f.alters.take n).any λa=>decide (sign<a.at_)
def uX (f:File):Int:=(f.alters.getD (f.alters.length-1) default).sum
def rS (v:View)(sign:Int):Int×Int:=
 if lu v.file sign v.file.alters.length=false then(0,ky v.file sign v.file.alters.length)
 else if kZ v 4 sign=1 then(1,uX v.file)
 else if kZ v 4 sign=2 then(2,min (ky v.file sign v.file.alters.length) (uX v.file))
 else(kZ v 4 sign,ky v.file sign v.file.alters.length)
def aDf (v:View)(hr:Right v.realm)(hf:FewS v.file)(sign:Int):ah T 116 [dV v,.int sign] (.tup [.int (rS v sign).1,.int (rS v sign).2]):=by
 refine zyt 100 aDG ?_;simp[aav];have mf:=hf.alters;refine⟨_,aAr v.file sign (by omega),?_⟩;refine aG.forRounds v.file.alters.length (λk=>[.bool (lu v.file sign k),.int k]) (λ_=>[]) ?_ (λk hk=>?_) ?_
 .simp[lu]
 .have hw:=be hk (by omega);have hs:lu v.file sign (k+1)=(lu v.file sign k||decide (sign<v.file.alters[k].at_)):=by
   unfold lu;rw[gA hk,ad7];simp
  rw[hs];cases lu v.file sign k<;>simp[Yt,Ib,hk,hw]
 .unfold rS;cases ha:lu v.file sign v.file.alters.length
  .simp[Yt,Ib,ha]
  simp[Yt,Ib,ha];have zN:0<v.file.alters.length:=by
   rcases JY v.file.alters.length with e|e
   .simp[lu,aef.mp e] at ha
   .exact e
  have hw:i64.wrap ((v.file.alters.length:Int)-1)=(v.file.alters.length:Int)-1:=ax (by omega);have hn:((v.file.alters.length:Int)-1).toNat=v.file.alters.length-1:=by omega
  have aq:v.file.alters.length-1<v.file.alters.length:=by omega
  have pW:uX v.file=v.file.alters[v.file.alters.length-1].sum:=by simp[uX,aq]
  simp[hw,hn,aq];refine⟨by omega,_,ZT v hr hf 4 sign,?_⟩;rw[pW];by_cases h1:kZ v 4 sign=1
  .simp[h1]
  by_cases h2:kZ v 4 sign=2
  .simp[h1,h2];split
   .rw[EF (by omega)]
   .rw[EE (by omega)]
  .simp[h1,h2]
@[simp] def aOu (a0 a1 a2 a3 a4 a5 a6 x:D):dp [a0,a1,a2,a3,a4,a5,a6] 3 [x]=[a0,a1,a2,x,a4,a5,a6]:=zyw
@[simp] def aOv (a0 a1 a2 a3 a4 a5 a6 x:D):dp [a0,a1,a2,a3,a4,a5,a6] 4 [x]=[a0,a1,a2,a3,x,a5,a6]:=zyw
@[simp] def aOw (a0 a1 a2 a3 a4 a5 a6 x:D):dp [a0,a1,a2,a3,a4,a5,a6] 5 [x]=[a0,a1,a2,a3,a4,x,a6]:=zyw
def wD (v:View)(sign:Int):Effect:=
 let s:=v.file.signs.getD sign.toNat default
 ⟨sign,s.kind,s.who,if rR v.file sign v.day=true then 0 else qa [v.form,kZ v 1 sign,kZ v 2 sign] 1,(rS v sign).1,
    if s.kind=1\/s.kind=4 then min (rS v sign).2 s.sum else(rS v sign).2,decide (s.kind≠1)&&decide (bO .and .i64 s.flags 1=0)⟩
def arD (v:View)(hr:Right v.realm)(hf:FewS v.file)(sign:Int)(h0:0<=sign)(h1:sign<v.file.signs.length):ah T 74 [dV v,.int sign] (uu (wD v sign)):=by
 refine zyt 95 aDE ?_;obtain⟨k,rfl⟩:=eC h0;have hk:k<v.file.signs.length:=by omega
 have dw:=aDi v.file k v.day (by have:=hf.acts;omega);have Vw:=aDf v hr hf k;have dO:v.file.signs.getD (k:Int).toNat default=v.file.signs[k]:=by simp[hk]
 have uR:=ZT v hr hf 1 k;have dN:=ZT v hr hf 2 k;have hj:ah T 114 [.list [.int v.form,.int (kZ v 1 k),.int (kZ v 2 k)]] (.int (qa [v.form,kZ v 1 k,kZ v 2 k] 1)):=aw1 [v.form,kZ v 1 k,kZ v 2 k] (by simp);have UM:(if v.file.signs[k].kind=1 then D.bool false else D.bool (decide (bO BinOp.and IntKind.i64 v.file.signs[k].flags 1=0)))=D.bool (decide (v.file.signs[k].kind≠1)&&decide (bO BinOp.and IntKind.i64 v.file.signs[k].flags 1=0)):=by
  by_cases h:v.file.signs[k].kind=1<;>simp[h]
 unfold wD;rw[dO];generalize kZ v 1 k=s1 at*;generalize kZ v 2 k=s2 at*;generalize qa [v.form,s1,s2] 1=jj at*;generalize rS v k=tx at*;obtain⟨t1,t2⟩:=tx;simp only at Vw;simp[aat,hk,UM];refine⟨_,dw,?_⟩;have pY:∀a b:Int,(if b<a then D.int b else D.int a)=D.int (min a b):=by
  intro a b;split
  .rw[EF (by omega)]
  .rw[EE (by omega)]
 cases NX:rR v.file k v.day
 .simp[NX];refine⟨_,uR,_,dN,_,hj,_,Vw,?_⟩;by_cases h1:v.file.signs[k].kind=1\/v.file.signs[k].kind=4
  .simp[h1,pY];rfl
  .simp[h1,pY];rfl
 .simp[NX];refine⟨_,Vw,?_⟩;by_cases h1:v.file.signs[k].kind=1\/v.file.signs[k].kind=4
  .simp[h1,pY];rfl
  .simp[h1,pY];rfl
def iz (r:Realm)(forum:Int)(f:File)(day:Int):View:=⟨r,forum,day,aH f day,gO (fG r forum 0 (aH f day) day),df r forum (aH f day) day⟩
def aAc (r:Realm)(hr:Right r)(hd:RightD r)(forum:Int)(f:File)(day:Int)(hf:FewS f):ah T 73 [aR r,.int forum,bQ f,.int day] (dV (iz r forum f day)):=by
 refine zyt 14 aDD ?_;simp[aas];have hg:=hf.at_ day;refine⟨_,Qq f day (by have:=hf.signs;omega) (by have:=hf.acts;omega) (by have:=hf.alters;omega) (by have:=hf.facts;omega),?_⟩;simp;refine⟨_,aeH r hr forum 0 _ day hg,_,Kb _,_,ael r hr hd forum _ day hg,?_⟩;simp;rfl
@[simp] def aNX (x:View)(a0 a1 a2 a3 a4 a5 a6 a7 a8 a9 ji ke jk kf kg ln lq ls l9 ES ET EU EV EW RQ RR RS RT RU RV RW:D):(dp [a0,a1,a2,a3,a4,a5,a6,a7,a8,a9,ji,ke,jk,kf,kg,ln,lq,ls,l9,ES,ET,EU,EV,EW,RQ,RR,RS,RT,RU,RV,RW] 0 [strs x.realm.currencies,pM x.realm.cities,groups x.realm.groups,firms x.realm.firms,orders x.realm.orders,usances x.realm.usances,rates x.realm.rates,halts x.realm.halts,.int x.forum,.int x.day,.int x.file.bill.drawer,.int x.file.bill.drawee,.int x.file.bill.payee,.int x.file.bill.sum,.int x.file.bill.currency,.int x.file.bill.tenor.kind,.int x.file.bill.tenor.n,.int x.file.bill.tenor.unit,.int x.file.bill.day,.int x.file.bill.city,.int x.file.bill.pay,.int x.file.bill.need,.int x.file.bill.rate,.int x.file.bill.flags,.int x.file.bill.parts,signs x.file.signs,alters x.file.alters,acts x.file.acts,facts x.file.facts,.int x.form,.int x.due])[25]?.getD D.none=signs x.file.signs:=zyw
def noE:Effect:=⟨0,0,0,0,0,0,false⟩
def cA (r:Realm)(forum:Int)(f:File)(sign day:Int):Effect×Bool:=
 if sign<0\/(iz r forum f day).file.signs.length<=sign then(noE,false) else(wD (iz r forum f day) sign,true)
def aoO (r:Realm)(hr:Right r)(hd:RightD r)(forum:Int)(f:File)(sign day:Int)(hf:FewS f):ah T 30 [aR r,.int forum,bQ f,.int sign,.int day] (.tup [uu (cA r forum f sign day).1,.bool (cA r forum f sign day).2]):=by
 refine zyt 13 aDB ?_;simp[aaq];refine⟨_,aAc r hr hd forum f day hf,?_⟩;have hg:FewS (iz r forum f day).file:=hf.at_ day;have zQ:(iz r forum f day).realm=r:=rfl;unfold cA;generalize iz r forum f day=v at*;simp;by_cases h:sign<0\/(v.file.signs.length:Int)<=sign
 .simp[h];rfl
 .simp[h];refine⟨_,arD v (zQ▸hr) hg sign (by omega) (by omega),?_⟩;simp
def F7 {n:Nat}{f:Nat->Int}(h:gd n f=0)(k:Nat)(hk:k<n):f k=0:=M4.1 h k hk
def ae5 {r:Realm}(h:cT r=0)(k:Nat)(hk:k<r.orders.length):qh r.orders[k]=true:=by
 unfold cT at h;rw[Jw] at h;have h1:=h (eG (fC r) 20 (oZ r)) (by simp);unfold eG at h1;split at h1
 .cases h1
 have h2:=F7 h1 k (by simpa [fC] using hk);have h3:=(zl h2).2;unfold oZ at h3;simpa [hk] using h3
def atI {r:Realm}(hs:Small r)(h:cT r=0):yK r:=by
 intro o ho;obtain⟨k,hk,rfl⟩:=gQ ho;have h1:=ae5 h k hk;obtain⟨hc,_⟩:=hs.order _ ho;refine⟨by omega,λch lF=>?_⟩;unfold qh at h1;simp only[aA] at h1;obtain⟨j,hj,rfl⟩:=gQ lF;have h2:=v8.1 h1.1 j hj;simpa [aB,hj] using h2
def atJ {r:Realm}(hs:Small r)(h:cT r=0):j5 r:=by
 refine⟨by have:=hs.halts;omega,λx hx=>?_⟩;obtain⟨k,hk,rfl⟩:=gQ hx;unfold cT at h;rw[Jw] at h;have h1:=h (nA r) (by simp);unfold nA at h1;split at h1
 .cases h1
 split at h1
 .cases h1
 split at h1
 .cases h1
 split at h1
 .rename_i bj;have h2:=v8.1 bj k hk;simp[wJ,wi,aB,hk] at h2;omega
 .cases h1
structure Good (r:Realm) (f:File):Prop where
 right:Right r
 rightD:RightD r
 few:FewS f
def atK {r:Realm}{f:File}(hr:r.OK)(h:CQ r f=true):Good r f:=by
 unfold CQ su at h;simp only[aA,decide_eq_true_eq] at h;obtain⟨⟨⟨h1,h2⟩,h3⟩,h4⟩:=h;have hs:=TP hr h1;refine⟨⟨atI hs h4,by have:=hs.orders;omega,λo ho=>?_⟩,⟨hs,atJ hs h4⟩,?_⟩
 .have:=hs.order o ho;refine⟨?_,by omega⟩;exact hr.2.2.2.2.1.2 o ho
 .simp[F5] at h2;exact⟨by omega,by omega,by omega,by omega⟩
def aBg (f:File)(kind sign:Int)(hl:f.facts.length<=4294967295):ah T 207 [bQ f,.int kind,.int sign] (ct (jr f kind sign)):=by
 refine zyt 159 aFa ?_;simp[abT];refine .scan f.facts.length (λk=>zj kind sign (f.facts.getD k default)=false) (λk=>[.int k]) (λ_=>[ct dj]) ?_ (λk hk hj ho=>?_) (λk hk hj ho=>?_) (λhj=>?_)
 .simp
 .have hw:=be hk (by omega);simp[hk,zj] at ho;by_cases h1:f.facts[k].kind=kind<;>by_cases h2:f.facts[k].at_=sign
  .exact absurd h2 (ho h1)
  all_goals simp[P8,D7,hk,hw,h1,h2]
 .have hf:jr f kind sign=fj (decide (f.facts[k].n≠0)):=by
   unfold jr;rw[qV hk (by simpa [hk] using ho) (λj br=>by have:=hj j br;simpa [show j<f.facts.length by omega] using this)]
  simp[hk,zj] at ho;by_cases hn:f.facts[k].n=0
  .simp[P8,D7,hk,ho,hf,hn];rfl
  .simp[P8,D7,hk,ho,hf,hn];rfl
 .have hf:jr f kind sign=dj:=by
   unfold jr;rw[sw (λj br=>by have:=hj j br;simpa [br] using this)]
  simp[P8,D7,hf]
@[simp] def aOt (a0 a1 a2 a3 a4 a5 a6 a7 a8 a9 ji ke jk kf kg ln lq ls l9 x:D):dp [a0,a1,a2,a3,a4,a5,a6,a7,a8,a9,ji,ke,jk,kf,kg,ln,lq,ls,l9] 18 [x]=[a0,a1,a2,a3,a4,a5,a6,a7,a8,a9,ji,ke,jk,kf,kg,ln,lq,ls,x]:=zyw
@[simp] def aNQ:D.none.cells=[D.none]:=zyw
end Rm
namespace Rm
open Go Cx
structure Owed where
 sum:Int
 interest:Int
 costs:Int
 exchange:Int
 paid:Int
 rest:Int
 currency:Int
 deriving DecidableEq,Inhabited
abbrev zzv (x:Owed):List D:=[.int x.sum,.int x.interest,.int x.costs,.int x.exchange,.int x.paid,.int x.rest,.int x.currency]
def mW (x:Owed):D:=.agg (zzv x)
@[simp] def aJa (x:Owed):(mW x).cells=(zzv x):=zyw
@[simp] def aNC (x:Owed):D.agg (zzv x)=mW x:=zyw
@[simp] def aKx (x:Owed):jl 7 (mW x)=mW x:=zyw
@[simp] def aI3 (x:Owed):(mW x).c 0=.int x.sum:=zyw
@[simp] def aI4 (x:Owed):(mW x).c 1=.int x.interest:=zyw
@[simp] def aI5 (x:Owed):(mW x).c 2=.int x.costs:=zyw
@[simp] def aI6 (x:Owed):(mW x).c 3=.int x.exchange:=zyw
@[simp] def aI7 (x:Owed):(mW x).c 4=.int x.paid:=zyw
@[simp] def aI8 (x:Owed):(mW x).c 5=.int x.rest:=zyw
@[simp] def aI9 (x:Owed):(mW x).c 6=.int x.currency:=zyw
end Rm
namespace Rm
open Go Go.Proofs Cx
def anU {α:Type}{p:α->Bool}{l:List α}(h:∀x,x∈l->p x=true):l.takeWhile p=l:=by
 induction l with
 |nil=>rfl
 |cons x l ih=>rw[Bd,if_pos (h x (by simp)),ih λy hy=>h y (by simp[hy])]
def anW {α:Type}{p:α->Bool}{l:List α}{x:α}(h:x∈l.takeWhile p):p x=true:=by
 induction l with
 |nil=>cases h
 |cons y l ih=>
  rw[Bd] at h;split at h
  .rcases dG.1 h with rfl|h
   .assumption
   .exact ih h
  .cases h
structure Stab (f:File) (day:Int):Prop where
 signs:∀s,s∈f.signs->s.day<=day
 acts:∀s,s∈f.acts->s.day<=day
 alters:∀a,a∈f.alters->iM f.signs.length a=true
 facts:∀a,a∈f.facts->jo f.signs.length a=true
def Stab.at_ {f:File}{day d:Int}(h:Stab f day)(hd:day<=d):aH f d=f:=by
 have h1:pG d f.signs=f.signs:=anU λs hs=>by simpa using Int.le_trans (h.signs s hs) hd
 have h2:AX d f.acts=f.acts:=anU λs hs=>by simpa using Int.le_trans (h.acts s hs) hd
 unfold aH;rw[h1,h2,List.filter_eq_self.2 h.alters,List.filter_eq_self.2 h.facts]
def aCT (f:File)(day:Int):Stab (aH f day) day:=by
 refine⟨λs hs=>?_,λs hs=>?_,λa ha=>?_,λa ha=>?_⟩
 .simpa using anW hs
 .simpa using anW hs
 .exact(gz.1 ha).2
 .exact(gz.1 ha).2
def gW (sum rate fr to:Int):Bool:=(wi sum 0 1099511627776&&wi rate 0 1000)&&(wi fr 0 100000&&wi to 0 100000)&&decide (fr<=to)
def tA (sum rate fr to:Int):Int:=sum*(rate*(to-fr))/360000
def ri (sum rate fr to:Int):Int:=if gW sum rate fr to=true then min 1099511627776 (tA sum rate fr to) else 0
def TR {s q a b:Int}:gW s q a b=true↔(0<=s/\s<=1099511627776)/\(0<=q/\q<=1000)/\(0<=a/\a<=100000)/\(0<=b/\b<=100000)/\a<=b:=by
 unfold gW wi;simp only[aA,decide_eq_true_eq];constructor
 .rintro⟨⟨⟨h1,h2⟩,h3,h4⟩,h5⟩;exact⟨h1,h2,h3,h4,h5⟩
 .rintro⟨h1,h2,h3,h4,h5⟩;exact⟨⟨⟨h1,h2⟩,h3,h4⟩,h5⟩
def Yr {s q a b:Int}(h:gW s q a b=true):0<=tA s q a b:=by
 obtain⟨h1,h2,h3,h4,h5⟩:=TR.1 h;exact Rq (JO h1.1 (JO h2.1 (by omega))) (by decide)
def ahI (s q a b:Int):0<=ri s q a b:=by
 unfold ri;split
 .rename_i h;have:=Yr h;omega
 .exact tT _
def sU (sum kept whole:Int):Int:=if whole<=kept then 0 else sum*(whole-kept)/whole
def axp {s k w:Int}(hs:0<=s)(hk:0<=k):0<=sU s k w:=by
 unfold sU;split
 .exact tT _
 .exact Rq (JO hs (by omega)) (by omega)
def axo {s k w:Int}(hs:0<=s)(hk:0<=k):sU s k w<=s:=by
 unfold sU;split
 .exact hs
 .rename_i h;refine Int.ediv_le_of_le_mul (by omega) ?_;exact Int.mul_le_mul_of_nonneg_left (by omega) hs
def jI (a:Act):Bool:=decide (a.kind=4)||decide (a.kind=5)
def wj (c:Int)(a:Act):Int:=if jI a=true then min 1099511627776 (c+a.sum) else c
def jJ (l:List Act):Int:=l.foldl wj 0
def aff (l:List Act)(a:Act):jJ (l++[a])=wj (jJ l) a:=by
 unfold jJ;rw[rX];rfl
def ss (rate:Int->Int->Int->Int×Int×Bool)(own cur sum fr to:Int):Int:=
 if own=cur then 0
 else if(rate cur own fr).2.2=true/\(rate own cur to).2.2=true then sU sum ((rate cur own fr).1*(rate own cur to).1) ((rate cur own fr).2.1*(rate own cur to).2.1)
 else 0
def RJ (rate:Int->Int->Int->Int×Int×Bool):Prop:=∀a b d,(rate a b d).2.2=true->(0<(rate a b d).1/\(rate a b d).1<=1073741824)/\(0<(rate a b d).2.1/\(rate a b d).2.1<=1073741824)
def arS {rate:Int->Int->Int->Int×Int×Bool}(hr:RJ rate)(own cur fr to:Int){s:Int}(hs:0<=s):0<=ss rate own cur s fr to:=by
 unfold ss;split
 .exact tT _
 split
 .rename_i h;have h1:=(hr _ _ _ h.1).1;have h2:=(hr _ _ _ h.2).1;exact axp hs (JO (by omega) (by omega))
 .exact tT _
structure Due where
 there:Bool
 sum:Int
 cur:Int
 due:Int
 end_:Int
 clause:Int
 rate:Int
 re:Int
 own:Int
 costs:Int
def Due.now (d:Due):Bool:=decide (d.due≠-1)&&decide (d.due<=d.end_)
def Due.rateF (d:Due):Int:=if d.clause=0 then min 1000 (max 0 d.rate) else d.clause
def Due.interest (d:Due):Int:=if d.now=true then ri d.sum d.rateF d.due d.end_ else 0
def Due.exch (d:Due)(rate:Int->Int->Int->Int×Int×Bool):Int:=if d.now=true/\d.re=1 then ss rate d.own d.cur d.sum d.due d.end_ else 0
def noO:Owed:=⟨0,0,0,0,0,0,0⟩
def Due.owed (d:Due)(rate:Int->Int->Int->Int×Int×Bool):Owed:=
 if d.there=false then noO else⟨d.sum,d.interest,d.costs,d.exch rate,0,min 1099511627776 (d.sum+d.interest+d.costs+d.exch rate),d.cur⟩
structure Due.OK (d:Due):Prop where
 low:0<=d.sum
 sum:d.sum<=1099511627776
 clause:0<=d.clause/\d.clause<=1000
 end_:d.end_<=100000
def afI {d:Due}(h:d.OK){rate:Int->Int->Int->Int×Int×Bool}(hr:RJ rate):0<=d.exch rate/\d.exch rate<=d.sum:=by
 unfold Due.exch;split
 .refine⟨arS hr _ _ _ _ h.low,?_⟩;unfold ss;split
  .exact h.low
  split
  .rename_i hh;have h1:=(hr _ _ _ hh.1).1;have h2:=(hr _ _ _ hh.2).1;exact axo h.low (JO (by omega) (by omega))
  .exact h.low
 .exact⟨tT _,h.low⟩
def nV (r:Realm)(who:Int):Int:=(r.cities.getD (r.firms.getD who.toNat default).city.toNat default).currency
def fH (r:Realm)(forum:Int)(f:File)(sign day:Int):Case:=⟨f,sign,sign,-1,df r forum f day,day⟩
def cw (r:Realm)(forum:Int)(f:File)(sign day:Int):Due where
 there:=(cA r forum f sign day).2
 sum:=(cA r forum f sign day).1.sum
 cur:=f.bill.currency
 due:=df r forum f day
 end_:=min day 100000
 clause:=f.bill.rate
 rate:=fT (dH r forum 16 (fH r forum f sign day))
 re:=gO (dH r forum 17 (fH r forum f sign day))
 own:=nV r (dk (aH f day) sign).who
 costs:=jJ (aH f day).acts
structure SumsOK (f:File):Prop where
 bill:1<=f.bill.sum/\f.bill.sum<=1099511627776
 rate:0<=f.bill.rate/\f.bill.rate<=1000
 alters:∀a,a∈f.alters->1<=a.sum/\a.sum<=1099511627776
 signs:∀s,s∈f.signs->s.kind=1\/s.kind=4->1<=s.sum/\s.sum<=1099511627776
def SumsOK.at_ {f:File}(h:SumsOK f)(day:Int):SumsOK (aH f day):=
 ⟨h.bill,h.rate,λa ha=>h.alters a ((gz.1 ha).1),λs hs=>h.signs s ((JV _).subset hs)⟩
def aC1 {f:File}(h:SumsOK f)(sign:Int)(n:Nat):1<=ky f sign n/\ky f sign n<=1099511627776:=by
 unfold ky
 have key:∀(l:List Alter) (s:Int),(∀a,a∈l->a∈f.alters)->1<=s/\s<=1099511627776->1<=l.foldl (λs a=>if a.at_<=sign then a.sum else s) s/\l.foldl (λs a=>if a.at_<=sign then a.sum else s) s<=1099511627776:=by
  intro l
  induction l with
  |nil=>exact λs _ hs=>hs
  |cons a l ih=>
   intro s hl hs;rw[A8];refine ih _ (λb hb=>hl b (by simp[hb])) ?_;split
   .exact h.alters a (hl a (by simp))
   .exact hs
 exact key _ _ (λa ha=>aeh ha) h.bill
def aw9 {f:File}{sign:Int}(h:SumsOK f)(aI:lu f sign f.alters.length=true):1<=uX f/\uX f<=1099511627776:=by
 unfold uX;have zN:0<f.alters.length:=by
  rcases JY f.alters.length with e|e
  .simp[lu,aef.mp e] at aI
  .exact e
 have aq:f.alters.length-1<f.alters.length:=by omega
 have e:f.alters.getD (f.alters.length-1) default=f.alters[f.alters.length-1]:=by simp[aq]
 rw[e];exact h.alters _ (bR aq)
def aDe {v:View}(h:SumsOK v.file)(sign:Int):1<=(rS v sign).2/\(rS v sign).2<=1099511627776:=by
 have h1:=aC1 h sign v.file.alters.length;unfold rS;split
 .exact h1
 rename_i ha;have h2:=aw9 (sign:=sign) h (by simpa using ha);split
 .exact h2
 split
 .simp only;omega
 .exact h1
def arC {v:View}(h:SumsOK v.file)(sign:Int)(h0:0<=sign)(h1:sign<v.file.signs.length):1<=(wD v sign).sum/\(wD v sign).sum<=1099511627776:=by
 have ht:=aDe h sign;have aq:sign.toNat<v.file.signs.length:=by omega
 have e:v.file.signs.getD sign.toNat default=v.file.signs[sign.toNat]:=by simp[aq]
 unfold wD;simp only[e];split
 .rename_i hk;have:=h.signs _ (bR aq) hk;omega
 .exact ht
def MZ (r:Realm)(forum:Int){f:File}(h:SumsOK f)(sign day:Int):0<=(cA r forum f sign day).1.sum/\(cA r forum f sign day).1.sum<=1099511627776:=by
 unfold cA;split
 .simp[noE]
 .rename_i hs;have:=arC (v:=iz r forum f day) (h.at_ day) sign (by omega) (by omega);simp only;omega
def afs (r:Realm)(forum:Int){f:File}(h:SumsOK f)(sign day:Int):(cw r forum f sign day).OK:=
 ⟨(MZ r forum h sign day).1,(MZ r forum h sign day).2,h.rate,by show min day 100000<=100000;omega⟩
def DC (r:Realm)(forum:Int)(f:File)(d:Int):df r forum (aH f d) d=df r forum f d:=by
 unfold df;rw[(aCT f d).at_ (tT _)];rfl
def Rf (n m:Int):ah T 132 [.int n,.int m] (.bool (wi n 0 m)):=by
 refine zyt 104 aD6 ?_;simp[aaT];by_cases h:0<=n<;>simp[wi,h]
def J3 (n:Nat)(d:D):Prop:=if 1099511627776<n then d=.tup [.int 0,.int 0,.bool false] else ∃r:Int,d=.tup [.int n,.int r,.bool true]
def aAx (a b c:Nat)(ha:a<9223372036854775808)(hb:b<9223372036854775808)(hc:0<c)(hc2:c<9223372036854775808):∃d,ah T 133 [.int a,.int b,.int c] d/\J3 (a*b/c) d:=by
 refine ah.ex_of_tree rfl apM aD5 ?_;have wa:IntKind.u64.wrap (a:Int)=a:=fc (by omega);have wb:IntKind.u64.wrap (b:Int)=b:=fc (by omega);have wc:IntKind.u64.wrap (c:Int)=c:=fc (by omega);simp[aaS,wa,wb,wc];refine⟨_,V5 a b (by omega) (by omega),?_⟩;have sB:=sd (a*b) 18446744073709551616;have m8:a*b%18446744073709551616<18446744073709551616:=j7 _ (by decide);generalize zF:a*b/18446744073709551616=hi at*;generalize avg:a*b%18446744073709551616=lo at*;by_cases h1:c<=hi
 .have cu:(c:Int)<=(hi:Int):=by omega
  have aMz:18446744073709551616<=a*b/c:=by
   rw[RE hc];have:=aes 18446744073709551616 h1;omega
  simp[h1];unfold J3;rw[if_pos (by omega)]
 .have cu:¬(c:Int)<=(hi:Int):=by omega
  obtain⟨d,hd,d2,rfl⟩:=afr hi lo c hc (by omega) m8 (by omega);have e:hi*18446744073709551616+lo=a*b:=by omega
  rw[e] at hd;simp[h1];refine⟨_,hd,?_⟩;unfold J3;generalize a*b/c=q at*;by_cases h2:1099511627776<q
  .have gf:(1099511627776:Int)<(q:Int):=by omega
   simp[h2,gf]
  .have gf:¬(1099511627776:Int)<(q:Int):=by omega
   have hw:i64.wrap (q:Int)=q:=ax (by omega);simp[h2,gf,hw]
def mw (s q a b:Int):Int×Int:=if gW s q a b=false then(0,1) else if 1099511627776<tA s q a b then(0,3) else(tA s q a b,0)
def aoU (s q a b:Int):ah T 86 [.int s,.int q,.int a,.int b,.int 360] (.tup [.int (mw s q a b).1,.int (mw s q a b).2]):=by
 refine zyt 103 aD4 ?_;generalize hP:mw s q a b=P
 have bad:gW s q a b=false->P.1=0/\P.2=1:=λh=>by
  unfold mw at hP;rw[if_pos h] at hP;simp[<-hP]
 simp[aaR];refine⟨_,Rf _ _,?_⟩;cases a1:wi s 0 1099511627776
 .have:=bad (by simp[gW,a1]);simp[this]
 simp;refine⟨_,Rf _ _,?_⟩;cases a2:wi q 0 1000
 .have:=bad (by simp[gW,a2]);simp[this]
 simp;refine⟨_,Rf _ _,?_⟩;cases a3:wi a 0 100000
 .have:=bad (by simp[gW,a3]);simp[this]
 simp;refine⟨_,Rf _ _,?_⟩;cases a4:wi b 0 100000
 .have:=bad (by simp[gW,a4]);simp[this]
 by_cases a5:b<a
 .have:=bad (by simp[gW];omega);simp[this,a5]
 have hf:gW s q a b=true:=by simp[gW,a1,a2,a3,a4];omega
 obtain⟨h1,h2,h3,h4,h5⟩:=TR.1 hf;simp[a5];obtain⟨S,rfl⟩:=eC h1.1;obtain⟨Q,rfl⟩:=eC h2.1;obtain⟨Y,hY⟩:=eC (show 0<=b-a by omega);have Ue:Q*Y<=1000*100000:=l7 (by omega) (by omega);have w1:i64.wrap (b-a)=(Y:Int):=by rw[hY];exact ax (by omega)
 have w2:i64.wrap ((Q:Int)*(Y:Int))=((Q*Y:Nat):Int):=by rw[<-Int.natCast_mul];exact ax (by omega)
 have w3:i64.wrap 360000=((360000:Nat):Int):=ax (by omega);rw[w1,w2,w3];obtain⟨d,hd,hp⟩:=aAx S (Q*Y) 360000 (by omega) (by omega) (by decide) (by decide);refine⟨_,hd,?_⟩;have Vf:tA S Q a b=((S*(Q*Y)/360000:Nat):Int):=by
  unfold tA;rw[hY];simp
 unfold mw at hP;rw[if_neg (by simp[hf]),Vf] at hP;unfold J3 at hp;generalize S*(Q*Y)/360000=n at*;by_cases hn:1099511627776<n
 .rw[if_pos hn] at hp;rw[if_pos (by omega)] at hP;subst hp;simp[<-hP]
 .rw[if_neg hn] at hp;rw[if_neg (by omega)] at hP;obtain⟨r,rfl⟩:=hp;simp[<-hP]
def awU (s q a b:Int):ah T 34 [.int s,.int q,.int a,.int b] (.int (ri s q a b)):=by
 refine zyt 102 aDp ?_;simp[aaf];refine⟨_,aoU s q a b,?_⟩;unfold mw ri;cases hf:gW s q a b
 .simp
 have:=Yr hf;by_cases h:1099511627776<tA s q a b
 .simp[h];omega
 .simp[h];omega
structure RealmOK (r:Realm):Prop where
 rates:∀x,x∈r.rates->(1<=x.num/\x.num<=1073741824)/\1<=x.den/\x.den<=1073741824
 firms:∀x,x∈r.firms->0<=x.city/\x.city<r.cities.length
def Qp {r:Realm}(h:cT r=0):RealmOK r:=by
 unfold cT at h;rw[Jw] at h;refine⟨λx hx=>?_,λx hx=>?_⟩
 .obtain⟨k,hk,rfl⟩:=gQ hx;have h1:=h (nA r) (by simp);unfold nA at h1;split at h1
  .cases h1
  split at h1
  .cases h1
  rename_i bj;have h2:=v8.1 (by simpa using bj) k hk;simp[xY,wi,hk] at h2;omega
 .obtain⟨k,hk,rfl⟩:=gQ hx;have h1:=h (eG (fB r) 200 (ox r)) (by simp);unfold eG at h1;split at h1
  .cases h1
  have h2:=M4.1 h1 k (by simpa [fB] using hk);have h3:=(zl h2).2;simp[ox,aB,hk] at h3;omega
def Az (l:List Rate)(a b day:Int)(n:Int)(k:Nat):Int:=
 if(((l.getD k default).fr=a/\(l.getD k default).to=b)/\(l.getD k default).since<=day)/\(n<0\/(l.getD n.toNat default).since<(l.getD k default).since) then k else n
def nq (l:List Rate)(a b day:Int)(k:Nat):Int:=(List.range k).foldl (Az l a b day) (-1)
def gI (l:List Rate)(a b day:Int):Int:=nq l a b day l.length
def Xy (l:List Rate)(a b day:Int)(k:Nat):nq l a b day (k+1)=Az l a b day (nq l a b day k) k:=by
 unfold nq;rw[aek,rX];rfl
def xG (l:List Rate)(a b day:Int):∀k,nq l a b day k<k
 |0=>by simp[nq]
 |k+1=>by
  have:=xG l a b day k;rw[Xy];unfold Az;split<;>omega
def alv (l:List Rate)(a b day:Int)(hl:l.length<=100000):ah T 25 [rates l,.int a,.int b,.int day] (.int (gI l a b day)):=by
 refine zyt 4 aDr ?_;simp[aah];refine aG.forRounds l.length (λk=>[.int (nq l a b day k),.int k]) (λ_=>[]) ?_ (λk aq=>?_) ?_
 .simp[nq]
 .have hw:=be aq (by omega);have hn:=xG l a b day k;have hs:Az l a b day (nq l a b day k) k=Az l a b day (nq l a b day k) k:=rfl;rw[Xy];generalize nq l a b day k=n at*;unfold Az;have hk:l.getD k default=l[k]:=by simp[aq]
  rw[hk];simp[amI,PK,aq,hw];refine⟨by omega,?_⟩;by_cases h0:n<0
  .simp[h0];split<;>rfl
  .have h1:n.toNat<l.length:=by omega
   simp[h0,h1];split<;>rfl
 .simp[amI,PK,gI]
def aeA (n:Int)(h:0<=n/\n<=1073741824):ah T 75 [.int n] (u n.toNat):=by
 refine zyt 6 aFZ ?_;obtain⟨N,rfl⟩:=eC h.1;have hw:IntKind.u64.wrap (N:Int)=N:=fc (by omega);have hn:¬(N:Int)<0:=by omega
 simp[acx,hw,hn]
def atE (a b:Nat)(ha:a<18446744073709551616)(hb:b<18446744073709551616):ah T 76 [u a,u b] (u (Nat.gcd a b)):=by
 refine zyt 7 aF0 ?_;simp[acy];generalize hg:Nat.gcd a b=g;refine aG.forLoop (α:=Nat×Nat) (λs vr vo=>(s.1<18446744073709551616/\s.2<18446744073709551616/\Nat.gcd s.1 s.2=g)/\vr=[u s.1,u s.2]/\vo=[]) (λs=>s.2) (a,b) ?_ ?_
 .simp;exact⟨ha,hb,hg⟩
 rintro⟨x,y⟩ vr vo ⟨⟨hx,hy,jy⟩,rfl,rfl⟩;simp only at hx hy jy ⊢;by_cases Hc:y=0
 .subst Hc;simp at jy;simp[am1,Qc,jy]
 .have aq:x%y<y:=j7 _ (by omega);have hw:IntKind.u64.wrap (((x%y:Nat)):Int)=((x%y:Nat):Int):=fc (by omega);simp[am1,Qc,Hc];refine⟨y,x%y,aq,⟨hy,by omega,?_⟩,rfl,?_⟩
  .rw[<-jy,RD x y,Nat.gcd_rec y x,RD]
  .rw[nJ (by omega)];exact(Int.natCast_emod x y).symm
def nj (n d:Int):Int×Int×Bool:=if d=0 then(0,0,false) else(((n.toNat/Nat.gcd n.toNat d.toNat:Nat):Int),((d.toNat/Nat.gcd n.toNat d.toNat:Nat):Int),true)
def EL (n d:Int)(hn:1<=n/\n<=1073741824)(hd:1<=d/\d<=1073741824):ah T 26 [.int n,.int d] (.tup [.agg [.int (nj n d).1,.int (nj n d).2.1],.int 0])/\(nj n d).2.2=true/\(0<(nj n d).1/\(nj n d).1<=1073741824)/\0<(nj n d).2.1/\(nj n d).2.1<=1073741824:=by
 obtain⟨N,rfl⟩:=eC (show 0<=n by omega);obtain⟨M,rfl⟩:=eC (show 0<=d by omega);unfold nj;rw[if_neg (by omega)];simp only[rW];have jO:0<Nat.gcd N M:=ao9 _ (by omega);have jQ:0<N/Nat.gcd N M:=Nat.div_pos (aep _ (by omega)) jO;have VH:0<M/Nat.gcd N M:=Nat.div_pos (Nat.gcd_le_right _ (by omega)) jO;have uT:N/Nat.gcd N M<=N:=vR _ _;have sQ:M/Nat.gcd N M<=M:=vR _ _;have UH:=atE N M (by omega) (by omega);have UJ:Nat.gcd N M<=N:=aep _ (by omega);have w9:IntKind.u64.wrap ((N:Int)/(Nat.gcd N M:Int))=((N/Nat.gcd N M:Nat):Int):=by rw[<-Int.natCast_ediv];exact fc (by omega)
 have eM:IntKind.u64.wrap ((M:Int)/(Nat.gcd N M:Int))=((M/Nat.gcd N M:Nat):Int):=by rw[<-Int.natCast_ediv];exact fc (by omega)
 generalize Nat.gcd N M=g at*;generalize N/g=x at*;generalize M/g=y at*;refine⟨?_,trivial,by omega,by omega⟩;have a1:=aeA N (by omega);have a2:=aeA M (by omega);simp only[rW] at a1 a2;have UI:ah T 77 [.bool false,.agg [.v (.int .u64 0),u x],.agg [.v (.int .u64 0),u y]] (.tup [.agg [.int x,.int y],.int 0]):=by
  refine zyt 8 aF1 ?_;have w1:i64.wrap (x:Int)=x:=ax (by omega);have w2:i64.wrap (y:Int)=y:=ax (by omega);have l1:¬(1152921504606846976:Int)<x:=by omega
  have l2:¬(1152921504606846976:Int)<y:=by omega
  simp[acz,w1,w2,l1,l2]
 refine .of_tree rfl aeM anP ?_;have m0:¬(M:Int)=0:=by omega
 have m1:¬(M:Int)<0:=by omega
 have n1:¬(N:Int)<0:=by omega
 have g0:¬(g:Int)=0:=by omega
 simp[Q8,m0];refine⟨by omega,_,a1,_,a2,_,UH,by simpa using g0,?_⟩;simp[w9,eM];have e:(!decide ((N:Int)<0)==decide ((M:Int)<0))=false:=by simp[n1,m1]
 rw[e];refine⟨_,UI,?_⟩;simp
def rateF (r:Realm)(a b day:Int):Int×Int×Bool:=
 if 0<=gI r.rates a b day then nj (r.rates.getD (gI r.rates a b day).toNat default).num (r.rates.getD (gI r.rates a b day).toNat default).den
 else if 0<=gI r.rates b a day then nj (r.rates.getD (gI r.rates b a day).toNat default).den (r.rates.getD (gI r.rates b a day).toNat default).num
 else(0,0,false)
def alu {r:Realm}(hr:RealmOK r){a b day:Int}(h:0<=gI r.rates a b day):(gI r.rates a b day).toNat<r.rates.length/\∀h2:(gI r.rates a b day).toNat<r.rates.length,r.rates.getD (gI r.rates a b day).toNat default=r.rates[(gI r.rates a b day).toNat]:=by
 have:=xG r.rates a b day r.rates.length;have h1:gI r.rates a b day<r.rates.length:=this;exact⟨by omega,λh2=>by simp[h2]⟩
def PH {r:Realm}(hr:RealmOK r):RJ (rateF r):=by
 intro a b d h;unfold rateF at h ⊢;split
 .rename_i h0;obtain⟨h1,h2⟩:=alu hr h0;have hx:=hr.rates _ (bR h1);rw[h2 h1];exact(EL _ _ hx.1 hx.2).2.2
 .rename_i h0;rw[if_neg h0] at h;split
  .rename_i h3;obtain⟨h1,h2⟩:=alu hr h3;have hx:=hr.rates _ (bR h1);rw[h2 h1];exact(EL _ _ hx.2 hx.1).2.2
  .rename_i h3;rw[if_neg h3] at h;cases h
def EP (r:Realm)(hr:RealmOK r)(hl:r.rates.length<=100000)(a b day:Int):ah T 8 [aR r,.int a,.int b,.int day] (.tup [.agg [.int (rateF r a b day).1,.int (rateF r a b day).2.1],.bool (rateF r a b day).2.2]):=by
 refine zyt 3 aDn ?_;have NN:ah T 26 [.int 0,.int 0] (.tup [.agg [.int 0,.int 0],.int 1]):=by
  refine .of_tree rfl aeM anP ?_;simp[Q8]
 have h1:=alv r.rates a b day hl;have h2:=alv r.rates b a day hl;have q1:=xG r.rates a b day r.rates.length;have q2:=xG r.rates b a day r.rates.length;have q1:gI r.rates a b day<r.rates.length:=q1;have q2:gI r.rates b a day<r.rates.length:=q2;unfold rateF;generalize gI r.rates a b day=n at*;generalize gI r.rates b a day=m at*;simp[aad];refine⟨_,h1,?_⟩;simp;by_cases h0:0<=n
 .have aq:n.toNat<r.rates.length:=by omega
  have hx:=hr.rates _ (bR aq);obtain⟨h,hb,_⟩:=EL _ _ hx.1 hx.2;simp[h0,q1,aq];refine⟨_,h,?_⟩;simp[hb]
 .simp[h0];refine⟨_,h2,?_⟩;simp;by_cases h3:0<=m
  .have aq:m.toNat<r.rates.length:=by omega
   have hx:=hr.rates _ (bR aq);obtain⟨h,hb,_⟩:=EL _ _ hx.2 hx.1;simp[h3,q2,aq];refine⟨_,h,?_⟩;simp[hb]
  .simp[h3];refine⟨_,NN,?_⟩;simp
def axq (s a b c d:Int)(hs:0<=s/\s<=1099511627776)(ha:0<a/\a<=1073741824)(hb:0<b/\b<=1073741824)(hc:0<c/\c<=1073741824)(hd:0<d/\d<=1073741824):
 ah T 87 [.int s,.agg [.int a,.int b],.agg [.int c,.int d]] (.int (sU s (a*c) (b*d))):=by
 obtain⟨S,rfl⟩:=eC hs.1;obtain⟨A,rfl⟩:=eC (tS ha.1);obtain⟨B,rfl⟩:=eC (tS hb.1);obtain⟨C,rfl⟩:=eC (tS hc.1);obtain⟨E,rfl⟩:=eC (tS hd.1);have hAC:A*C<=1073741824*1073741824:=l7 (by omega) (by omega);have hBE:B*E<=1073741824*1073741824:=l7 (by omega) (by omega);have wA:IntKind.u64.wrap (A:Int)=A:=fc (by omega);have wB:IntKind.u64.wrap (B:Int)=B:=fc (by omega);have wC:IntKind.u64.wrap (C:Int)=C:=fc (by omega);have wE:IntKind.u64.wrap (E:Int)=E:=fc (by omega);have wS:IntKind.u64.wrap (S:Int)=S:=fc (by omega);have wAC:IntKind.u64.wrap ((A:Int)*(C:Int))=((A*C:Nat):Int):=by rw[<-Int.natCast_mul];exact fc (by omega)
 have wBE:IntKind.u64.wrap ((B:Int)*(E:Int))=((B*E:Nat):Int):=by rw[<-Int.natCast_mul];exact fc (by omega)
 have e1:(A:Int)*(C:Int)=((A*C:Nat):Int):=(Int.natCast_mul _ _).symm;have e2:(B:Int)*(E:Int)=((B*E:Nat):Int):=(Int.natCast_mul _ _).symm;rw[e1,e2];refine zyt 110 aDq ?_;simp[aag,wA,wB,wC,wE,wS,wAC,wBE,-Int.natCast_mul];generalize A*C=K at*;generalize B*E=W at*;unfold sU;by_cases h:W<=K
 .have h':(W:Int)<=K:=by omega
  simp[h]
 have h':¬(W:Int)<=K:=by omega
 have wd:IntKind.u64.wrap ((W:Int)-(K:Int))=((W-K:Nat):Int):=by rw[j1 (by omega)];omega
 have Uf:S*(W-K)<=1099511627776*W:=l7 (by omega) (by omega);have sB:=sd (S*(W-K)) 18446744073709551616;have m8:S*(W-K)%18446744073709551616<18446744073709551616:=j7 _ (by decide);simp[h,wd];refine⟨_,V5 S (W-K) (by omega) (by omega),?_⟩;generalize zF:S*(W-K)/18446744073709551616=hi at*;generalize avg:S*(W-K)%18446744073709551616=lo at*;obtain⟨d,hd,d2,rfl⟩:=afr hi lo W (by omega) (by omega) m8 (by omega);have e:hi*18446744073709551616+lo=S*(W-K):=by omega
 rw[e] at hd;refine⟨_,hd,?_⟩;have hq:S*(W-K)/W<=1099511627776:=Nat.div_le_of_le_mul (by rw[nP W];exact Uf);have e3:(S:Int)*((W:Int)-(K:Int))/(W:Int)=((S*(W-K)/W:Nat):Int):=by
  rw[Int.natCast_ediv,Int.natCast_mul,Int.natCast_sub (by omega)]
 rw[e3];generalize S*(W-K)/W=q at*;have hw:i64.wrap (q:Int)=q:=ax (by omega);simp[hw]
def arT (r:Realm)(hr:RealmOK r)(hl:r.rates.length<=100000)(b:Bill)(who s fr to:Int)(hw:0<=who/\who<r.firms.length)(hs:0<=s/\s<=1099511627776):
 ah T 36 [aR r,dc b,.int who,.int s,.int fr,.int to] (.int (ss (rateF r) (nV r who) b.currency s fr to)):=by
 refine zyt 109 aDo ?_;have h1:who.toNat<r.firms.length:=by omega
 have h2:=hr.firms _ (bR h1);have h3:(r.firms[who.toNat]).city.toNat<r.cities.length:=by omega
 have Uv:nV r who=r.cities[(r.firms[who.toNat]).city.toNat].currency:=by simp[nV,h1,h3]
 rw[Uv];simp[aae,hw,h1,h2,h3];generalize r.cities[(r.firms[who.toNat]).city.toNat].currency=own at*;unfold ss;by_cases h4:own=b.currency
 .simp[h4]
 simp[h4];refine⟨_,EP r hr hl _ _ _,_,EP r hr hl _ _ _,?_⟩;simp;have hk:=PH hr;cases e1:(rateF r b.currency own fr).2.2
 .simp
 cases e2:(rateF r own b.currency to).2.2
 .simp
 have k1:=hk _ _ _ e1;have k2:=hk _ _ _ e2;simp;exact axq s _ _ _ _ hs k1.1 k1.2 k2.1 k2.2
@[simp] def aNP:D.none.b=false:=zyw
def fD (n a b:Int):ah T 65 [.int n,.int a,.int b] (.bool (wi n a b)):=by
 refine zyt 124 aEi ?_;simp[aa5];by_cases h:a<=n<;>simp[wi,h]
def pH (n m:Int):ah T 104 [.int n,.int m] (.bool (aB n m)):=by
 refine zyt 121 aGV ?_;simp[adu];by_cases h:0<=n<;>simp[aB,h]
def QN (b:Bill):Bool:=
 if b.tenor.kind=0\/b.tenor.kind=4 then decide (b.tenor.n=0)&&decide (b.tenor.unit=0)
 else if b.tenor.kind=1\/b.tenor.kind=2 then(decide (1<=b.tenor.n)&&decide (b.tenor.n<=400))&&(decide (b.tenor.unit=0)||decide (b.tenor.unit=1))
 else if b.tenor.kind=3 then(decide (b.day<=b.tenor.n)&&decide (b.tenor.n<=100000))&&decide (b.tenor.unit=0)
 else false
def aHo (b:Bill):ah T 105 [dc b] (.bool (QN b)):=by
 refine zyt 122 aGW ?_;unfold QN;simp[adv];by_cases h0:b.tenor.kind=0
 .by_cases h1:b.tenor.n=0<;>simp[h0,h1]
 by_cases h4:b.tenor.kind=4
 .by_cases h1:b.tenor.n=0<;>simp[h4,h1]
 simp[h0,h4];by_cases k1:b.tenor.kind=1
 .by_cases h1:1<=b.tenor.n<;>by_cases h2:b.tenor.n<=400<;>by_cases h3:b.tenor.unit=0<;>simp[k1,h1,h2,h3]
 by_cases k2:b.tenor.kind=2
 .by_cases h1:1<=b.tenor.n<;>by_cases h2:b.tenor.n<=400<;>by_cases h3:b.tenor.unit=0<;>simp[k2,h1,h2,h3]
 simp[k1,k2];by_cases k3:b.tenor.kind=3
 .by_cases h1:b.day<=b.tenor.n<;>by_cases h2:b.tenor.n<=100000<;>simp[k3,h1,h2]
 simp[k3]
def vb (n m:Int):Bool:=decide (n=-1)||aB n m
def AZ (r:Realm)(b:Bill):Bool:=((aB b.drawer r.firms.length&&aB b.drawee r.firms.length)&&vb b.payee r.firms.length)&&vb b.need r.firms.length
def yE (r:Realm)(b:Bill):Bool:=(aB b.currency r.currencies.length&&aB b.city r.cities.length)&&aB b.pay r.cities.length
def DZ (b:Bill):Prop:=((((1<=b.sum/\b.sum<=1099511627776)/\0<=b.day)/\b.day<=100000)/\0<=b.rate)/\b.rate<=1000
def TY (b:Bill):Prop:=((0<=b.flags/\b.flags<=7)/\(bO .and .i64 b.flags 4=0\/¬b.payee=-1))/\QN b=true
structure BillOK (r:Realm) (b:Bill):Prop where
 realm:cT r=0
 who:AZ r b=true
 where_:yE r b=true
 range:DZ b
 parts:1<=b.parts/\b.parts<=4
 form:TY b
 usance:b.tenor.kind=4->∃u,u∈r.usances/\u.fr=b.city/\u.to=b.pay
def qC (P:Prop)(d:D):Prop:=∃e:Int,d=.int e/\(e=0↔P)
def qC.no {P:Prop}{e:Int}(h:¬P)(he:e≠0):qC P (.int e):=⟨e,rfl,λx=>absurd x he,λx=>absurd x h⟩
def qC.ok {P:Prop}(h:P):qC P (.int 0):=⟨0,rfl,λ_=>h,λ_=>rfl⟩
def aHn (r:Realm)(hs:Small r)(b:Bill):∃d,ah T 63 [aR r,dc b] d/\qC (BillOK r b) d:=by
 refine ah.ex_of_tree rfl apQ aGU ?_;simp[adt];refine⟨_,Jm r hs,?_⟩;by_cases h0:cT r=0
 case neg=>
  simp[h0];exact .no (λh=>h0 h.realm) h0
 simp[h0];refine⟨_,pH _ _,?_⟩;cases h1:aB b.drawer r.firms.length
 .simp;exact .no (λh=>by simpa [AZ,h1] using h.who) (by decide)
 simp;refine⟨_,pH _ _,?_⟩;cases h2:aB b.drawee r.firms.length
 .simp;exact .no (λh=>by simpa [AZ,h2] using h.who) (by decide)
 by_cases h3:vb b.payee r.firms.length=true
 case neg=>
  have fI:¬b.payee=-1/\aB b.payee r.firms.length=false:=by simpa [vb] using h3
  simp[fI.1];refine⟨_,pH _ _,?_⟩;simp[fI.2];exact .no (λh=>h3 (by have:=h.who;simp[AZ] at this;exact this.1.2)) (by decide)
 by_cases h4:vb b.need r.firms.length=true
 case neg=>
  have kI:¬b.need=-1/\aB b.need r.firms.length=false:=by simpa [vb] using h4
  have eU:qC (BillOK r b) (.int 1):=.no (λh=>h4 (by have:=h.who;simp[AZ] at this;exact this.2)) (by decide);by_cases hp:b.payee=-1
  .simp[hp,kI.1];refine⟨_,pH _ _,?_⟩;simp[kI.2];exact eU
  .have fI:aB b.payee r.firms.length=true:=by simpa [vb,hp] using h3
   simp[hp];refine⟨_,pH _ _,?_⟩;simp[fI,kI.1];refine⟨_,pH _ _,?_⟩;simp[kI.2];exact eU
 have xk:AZ r b=true:=by simp[AZ,h1,h2,h3,h4]
 have hp:b.payee=-1\/(¬b.payee=-1/\aB b.payee r.firms.length=true):=by
  by_cases e:b.payee=-1
  .exact .inl e
  .exact .inr ⟨e,by simpa [vb,e] using h3⟩
 have hn:b.need=-1\/(¬b.need=-1/\aB b.need r.firms.length=true):=by
  by_cases e:b.need=-1
  .exact .inl e
  .exact .inr ⟨e,by simpa [vb,e] using h4⟩
 have bad:¬yE r b=true->qC (BillOK r b) (.int 1):=λh=>.no (λk=>h k.where_) (by decide);have fin:∀u:Int,(u=0↔∃u,u∈r.usances/\u.fr=b.city/\u.to=b.pay)->DZ b->(1<=b.parts/\b.parts<=4)->TY b->yE r b=true->qC (BillOK r b) (if b.tenor.kind=4 then .int u else .int 0):=by
  intro u hu h6 h7 h8 h9;by_cases e:b.tenor.kind=4
  .rw[if_pos e];exact⟨u,rfl,λh=>⟨h0,xk,h9,h6,h7,h8,λ_=>hu.1 h⟩,λh=>hu.2 (h.usance e)⟩
  .rw[if_neg e];exact .ok ⟨h0,xk,h9,h6,h7,h8,λh=>absurd h e⟩
 obtain⟨un,ue,hu1,_,Vx⟩:=aew r b.city b.pay (by have:=hs.us;omega);rcases hp with hp|⟨hp,fS⟩<;>rcases hn with hn|⟨hn,zK⟩
 case' inl.inl=>simp[hp,hn]
 case' inl.inr=>simp[hp,hn];refine⟨_,pH _ _,?_⟩;simp[zK]
 case' inr.inl=>simp[hp,hn];refine⟨_,pH _ _,?_⟩;simp[fS]
 case' inr.inr=>simp[hp,hn];refine⟨_,pH _ _,?_⟩;simp[fS];refine⟨_,pH _ _,?_⟩;simp[zK]
 all_goals
  refine⟨_,pH _ _,?_⟩;cases h5:aB b.currency r.currencies.length
  .simp;exact bad (by simp[yE,h5])
  simp;refine⟨_,pH _ _,?_⟩;cases h6:aB b.city r.cities.length
  .simp;exact bad (by simp[yE,h6])
  simp;refine⟨_,pH _ _,?_⟩;cases h7:aB b.pay r.cities.length
  .simp;exact bad (by simp[yE,h7])
  have Ha:yE r b=true:=by simp[yE,h5,h6,h7]
  simp;by_cases h8:DZ b
  case neg=>
   have T7:((((b.sum<1\/1099511627776<b.sum)\/b.day<0)\/100000<b.day)\/b.rate<0)\/1000<b.rate:=by unfold DZ at h8;omega
   rw[if_pos T7];exact .no (λk=>h8 k.range) (by decide)
  have T7:¬(((((b.sum<1\/1099511627776<b.sum)\/b.day<0)\/100000<b.day)\/b.rate<0)\/1000<b.rate):=by unfold DZ at h8;omega
  rw[if_neg T7];by_cases h9:1<=b.parts/\b.parts<=4
  case neg=>
   rw[if_pos (by omega)];exact .no (λk=>h9 k.parts) (by decide)
  rw[if_neg (by omega)];have R7:¬TY b->qC (BillOK r b) (.int 2):=λh=>.no (λk=>h k.form) (by decide);by_cases g1:0<=b.flags/\b.flags<=7
  case neg=>
   have dW:b.flags<0\/7<b.flags:=by omega
   simp[g1,dW];exact R7 (λh=>g1 h.1.1)
  have dW:¬(b.flags<0\/7<b.flags):=by omega
  by_cases g2:bO .and .i64 b.flags 4=0\/¬b.payee=-1
  case neg=>
   have ly:¬bO .and .i64 b.flags 4=0/\b.payee=-1:=by simpa using g2
   first
        |exact absurd ly.2 hp
        |(simp[g1,dW,ly]
          exact R7 (λh=>g2 h.1.2))
  have g3:(b.payee=-1->bO .and .i64 b.flags 4=0):=λe=>g2.resolve_right (λh=>h e);simp[g1,dW,hp,g3];refine⟨_,aHo b,?_⟩;cases gX:QN b
  .simp;exact R7 (λh=>by have:=h.2;rw[gX] at this;cases this)
  have hf:=fin ue Vx h8 h9 ⟨⟨g1,g2⟩,gX⟩ Ha;simp;by_cases e:b.tenor.kind=4
  .simp[e] at hf ⊢;exact⟨_,hu1,hf⟩
  .simp[e] at hf ⊢;exact hf
def Ej (f:File)(i part:Int):Bool:=decide (i=0)||decide ((dk f i).part=part)
def alx (f:File)(i part:Int)(h:i=0\/(0<=i/\i<f.signs.length)):ah T 163 [bQ f,.int i,.int part] (.bool (Ej f i part)):=by
 refine zyt 127 aEk ?_;unfold Ej;by_cases h0:i=0
 .simp[QW,h0]
 .obtain⟨h1,h2⟩:=h.resolve_left h0;have h3:i.toNat<f.signs.length:=by omega
  simp[QW,h0,h1,h2,h3,dk]
def Kq (f:File)(i:Int)(kinds:List Int):Bool:=wi (dk f i).for_ 0 (i-1)&&(Ej f (dk f i).for_ (dk f i).part&&hasB kinds (dk f (dk f i).for_).kind)
def aAu (f:File)(i:Int)(kinds:List Int)(h:0<=i/\i<f.signs.length)(hl:f.signs.length<=100000)(hk:kinds.length<=100):ah T 162 [bQ f,.int i,ints kinds] (.bool (Kq f i kinds)):=by
 refine zyt 126 aEf ?_;have h1:i.toNat<f.signs.length:=by omega
 have hw:i64.wrap (i-1)=i-1:=ax (by omega);have hs:dk f i=f.signs[i.toNat]:=by simp[dk,h1]
 unfold Kq;rw[hs];simp[aa2,h,h1,hw];refine⟨_,fD _ _ _,?_⟩;cases hb:wi f.signs[i.toNat].for_ 0 (i-1)
 .simp
 .have cj:0<=f.signs[i.toNat].for_/\f.signs[i.toNat].for_<f.signs.length:=by
   simp[wi] at hb;omega
  have h2:f.signs[i.toNat].for_.toNat<f.signs.length:=by omega
  have dN:dk f f.signs[i.toNat].for_=f.signs[f.signs[i.toNat].for_.toNat]:=by simp[dk,h2]
  rw[dN];simp;refine⟨_,alx f _ _ (.inr cj),?_⟩;cases dw:Ej f f.signs[i.toNat].for_ f.signs[i.toNat].part
  .simp
  simp[cj,h2];exact yL kinds _ (by omega)
def TW (r:Realm)(b:Bill)(s:Sign)(B:List Int->Bool):Bool:=
 if s.kind=0 then((((decide (s.who=b.drawer)&&decide (s.sum=0))&&decide (bO .or .i64 s.flags 1=1))&&decide (s.part=0))&&decide (s.day=b.day))&&decide (s.city=b.city)
 else if s.kind=1 then decide (s.who=b.drawee)&&(wi s.sum 1 1099511627776&&decide (s.flags=0))
 else if s.kind=2 then((wi s.to (-1) ((r.firms.length:Int)-1)&&decide (s.sum=0))&&wi s.flags 0 7)&&decide (bO .and .i64 s.flags 6≠6)
 else if s.kind=3 then(decide (s.sum=0)&&decide (s.flags=0))&&B [0,1,2,4]
 else if s.kind=4 then((wi s.sum 1 1099511627776&&decide (s.flags=0))&&decide (s.who≠b.drawee))&&B [0,2]
 else false
def M5 (r:Realm)(b:Bill)(i:Nat)(s:Sign)(B:List Int->Bool):Bool:=
 if ¬(i=0↔s.kind=0)\/(¬s.kind=2/\¬s.to=-1) then false
 else if(¬s.kind=3/\¬s.kind=4)/\¬s.for_=-1 then false
 else TW r b s B
def zm (r:Realm)(f:File)(i:Nat):Bool:=M5 r f.bill i (f.signs.getD i default) (Kq f i)
def aAw (r:Realm)(hr:Small r)(f:File)(i:Nat)(h:i<f.signs.length)(hl:f.signs.length<=100000):ah T 107 [aR r,bQ f,.int i] (.bool (zm r f i)):=by
 refine zyt 125 aEh ?_;have dM:=hr.firms;have hw:i64.wrap ((r.firms.length:Int)-1)=(r.firms.length:Int)-1:=ax (by omega);have hs:f.signs.getD i default=f.signs[i]:=by simp[h]
 have zz:=λks hk=>aAu f i ks ⟨by omega,by omega⟩ hl hk;unfold zm;rw[hs];generalize hB:Kq f i=B at zz ⊢;generalize hX:M5 r f.bill i f.signs[i] B=X;simp[aa4,h];generalize f.signs[i]=s at*;unfold M5 at hX;by_cases h1:¬(i=0↔s.kind=0)\/(¬s.kind=2/\¬s.to=-1)
 .rw[if_pos h1] at hX ⊢;exact hX.symm
 rw[if_neg h1] at hX ⊢;by_cases h2:(¬s.kind=3/\¬s.kind=4)/\¬s.for_=-1
 .rw[if_pos h2] at hX ⊢;exact hX.symm
 rw[if_neg h2] at hX ⊢;refine⟨_,fD _ _ _,?_⟩;unfold TW at hX;by_cases k0:s.kind=0
 .rw[if_pos k0] at hX ⊢;rw[<-hX];by_cases a:(((s.who=f.bill.drawer/\s.sum=0)/\bO BinOp.or IntKind.i64 s.flags 1=1)/\s.part=0)/\s.day=f.bill.day
  .simp[a]
  .rw[if_neg a]
   congr 1
   rw[eq_comm,JL];intro e;simp at e;exact a e.1
 rw[if_neg k0] at hX ⊢;by_cases k1:s.kind=1
 .rw[if_pos k1] at hX ⊢;rw[<-hX];by_cases a:s.who=f.bill.drawee<;>cases wi s.sum 1 1099511627776<;>simp[a]
 rw[if_neg k1] at hX ⊢;by_cases k2:s.kind=2
 .rw[if_pos k2] at hX ⊢;rw[<-hX,hw];refine⟨_,fD _ _ _,?_⟩;cases wi s.to (-1) ((r.firms.length:Int)-1)
  .simp
  by_cases a:s.sum=0
  case neg=>simp[a]
  simp[a];refine⟨_,fD _ _ _,?_⟩;cases wi s.flags 0 7<;>simp
 rw[if_neg k2] at hX ⊢;by_cases k3:s.kind=3
 .rw[if_pos k3] at hX ⊢;rw[<-hX];by_cases a:s.sum=0/\s.flags=0
  case neg=>
   rw[if_neg a,if_neg a]
   congr 1
   rw[eq_comm,JL];intro e;simp at e;exact a e.1
  rw[if_pos a];refine⟨_,zz [0,1,2,4] (by decide),?_⟩;simp[a]
 rw[if_neg k3] at hX ⊢;by_cases k4:s.kind=4
 .rw[if_pos k4] at hX ⊢;rw[<-hX];cases wi s.sum 1 1099511627776
  .simp
  by_cases a:s.flags=0/\¬s.who=f.bill.drawee
  case neg=>
   simp[a]
  simp[a];exact zz [0,2] (by decide)
 rw[if_neg k4] at hX ⊢;exact hX.symm
def uA (f:File)(i:Nat):Int:=if i=0 then f.bill.day else(f.signs.getD (i-1) default).day
def JH (f:File)(i:Nat)(s:Sign):Bool:=(f.signs.take i).any λx=>(decide (s.kind=1)&&decide (x.kind=1))&&decide (x.part=s.part)
def Eh (r:Realm)(f:File)(i:Nat):Int:=
 let s:=f.signs.getD i default
 if wi s.part 0 (f.bill.parts-1)=false then 15
 else if aB s.who r.firms.length=false\/aB s.city r.cities.length=false then 1
 else if wi s.day (uA f i) 100000=false\/(i=0/\¬s.day=uA f i) then 13
 else if zm r f i=false then 14
 else if JH f i s=true then 5 else 0
def alw (r:Realm)(hr:Small r)(f:File)(hp:1<=f.bill.parts/\f.bill.parts<=4)(i:Nat)(h:i<f.signs.length)(hl:f.signs.length<=100000):ah T 64 [aR r,bQ f,.int i] (.int (Eh r f i)):=by
 refine zyt 123 aEj ?_;have dM:=hr.firms;have Uu:=hr.cities;have gn:i64.wrap ((r.firms.length:Int)-1)=(r.firms.length:Int)-1:=ax (by omega);have cl:i64.wrap ((r.cities.length:Int)-1)=(r.cities.length:Int)-1:=ax (by omega);have G9:i64.wrap (f.bill.parts-1)=f.bill.parts-1:=ax (by omega);have hs:f.signs.getD i default=f.signs[i]:=by simp[h]
 generalize hX:Eh r f i=X;unfold Eh at hX;simp only[hs] at hX;simp[aa6,h,gn,cl,G9];refine⟨_,fD _ _ _,?_⟩;cases a1:wi f.signs[i].part 0 (f.bill.parts-1)
 .simpa [a1] using hX
 simp[a1] at hX ⊢;refine⟨_,fD _ _ _,?_⟩;rw[oR] at hX;cases a2:wi f.signs[i].who 0 ((r.firms.length:Int)-1)
 .simpa [a2] using hX
 simp[a2] at hX ⊢;refine⟨_,fD _ _ _,?_⟩;rw[oR] at hX;cases a3:wi f.signs[i].city 0 ((r.cities.length:Int)-1)
 .simpa [a3] using hX
 simp[a3] at hX ⊢;refine⟨by omega,?_⟩;have pY:min i f.signs.length=i:=by omega
 refine aG.forRounds i (λk=>[.int (uA f k),.bool ((f.signs.take k).any λx=>(decide (f.signs[i].kind=1)&&decide (x.kind=1))&&decide (x.part=f.signs[i].part)),.int k]) (λ_=>[]) ?_ (λk hk=>?_) ?_
 .simp[uA]
 .have hw:=be hk (by omega);have bu:k<f.signs.length:=by omega
  have hf:uA f (k+1)=f.signs[k].day:=by simp[uA,bu]
  rw[gA bu,ad7];generalize ((f.signs.take k).any λx=>(decide (f.signs[i].kind=1)&&decide (x.kind=1))&&decide (x.part=f.signs[i].part))=A;simp[amN,PQ,hk,bu,h,hw,hf,pY];cases A
  .by_cases e1:f.signs[i].kind=1<;>by_cases e2:f.signs[k].kind=1<;>simp[e1,e2]
  .simp
 .have ht:JH f i f.signs[i]=true↔∃x,x∈List.take i f.signs/\(f.signs[i].kind=1/\x.kind=1)/\x.part=f.signs[i].part:=by simp[JH]
  simp[amN,PQ,pY,h];refine⟨_,fD _ _ _,?_⟩;by_cases a4:wi f.signs[i].day (uA f i) 100000=false\/(i=0/\¬f.signs[i].day=uA f i)
  .rw[if_pos a4] at hX;rw[if_pos (by simpa using a4)];exact hX
  rw[if_neg a4] at hX;rw[if_neg (by simpa using a4)];refine⟨_,aAw r hr f i h hl,?_⟩;cases a5:zm r f i
  .simpa [a5] using hX
  simp[a5] at hX;simp only[TB,if_true];rw[<-hX];by_cases a6:JH f i f.signs[i]=true
  .rw[if_pos a6,if_pos (ht.1 a6)]
  .rw[if_neg a6,if_neg (λx=>a6 (ht.2 x))]
def EY (a:Act)(to at_ own:Bool):Bool:=
 if a.kind=0\/a.kind=1\/a.kind=2 then(to&&decide (a.at_=-1))&&decide (a.sum=0)
 else if a.kind=3\/a.kind=4\/a.kind=5 then((to&&decide (a.at_=-1))&&wi a.sum 0 1099511627776)&&wi a.form 0 1
 else if a.kind=6 then(to&&own)&&wi a.sum 1 1099511627776
 else if a.kind=9 then(decide (a.to=-1)&&own)&&decide (a.sum=0)
 else(decide (a.to=-1)&&at_)&&decide (a.sum=0)
def E3 (f:File)(a:Act):Bool:=aB a.at_ f.signs.length&&Ej f a.at_ a.part
def Xx (f:File)(a:Act):Bool:=E3 f a&&decide ((dk f a.at_).who=a.who)
def sf (r:Realm)(f:File)(a:Act):Bool:=
 if aB a.who r.firms.length=false\/(¬a.kind=4/\¬a.form=0) then false else EY a (aB a.to r.firms.length) (E3 f a) (Xx f a)
def aAs (r:Realm)(hr:Small r)(f:File)(a:Act)(hl:f.signs.length<=100000):ah T 108 [aR r,bQ f,ki a] (.bool (sf r f a)):=by
 refine zyt 129 aEd ?_;have dM:=hr.firms;have gn:i64.wrap ((r.firms.length:Int)-1)=(r.firms.length:Int)-1:=ax (by omega);have cl:i64.wrap ((f.signs.length:Int)-1)=(f.signs.length:Int)-1:=ax (by omega);generalize hX:sf r f a=X;unfold sf Xx E3 at hX;simp[aa0,gn,cl];refine⟨_,fD _ _ _,?_⟩;rw[<-oR];have nf:=fD a.to 0 ((r.firms.length:Int)-1);have Ha:=fD a.who 0 ((r.firms.length:Int)-1);rw[<-oR] at nf Ha;generalize aB a.to r.firms.length=tt at*;generalize aB a.who r.firms.length=ww at*;have fin:∀at_ own:Bool,(if ww=false\/(¬a.kind=4/\¬a.form=0) then false else EY a tt at_ own)=X->
  if ww=false\/(¬a.kind=4/\¬a.form=0) then X=false
  else if a.kind=0\/a.kind=1\/a.kind=2 then(if tt=true/\a.at_=-1 then D.bool (decide (a.sum=0)) else D.bool false)=D.bool X
  else if a.kind=3\/a.kind=5\/a.kind=4 then
        if tt=true/\a.at_=-1 then
         ∃d,ah (eE tab ext) 65 [D.int a.sum,D.int 0,D.int 1099511627776] d/\
          if(tt=true/\a.at_=-1)/\d.b=true then
             ∃FM,ah (eE tab ext) 65 [D.int a.form,D.int 0,D.int 1] FM/\(if(tt=true/\a.at_=-1)/\d.b=true then FM else D.bool false)=D.bool X
          else(if(tt=true/\a.at_=-1)/\d.b=true then D.none else D.bool false)=D.bool X
        else D.bool false=D.bool X
  else if a.kind=6 then
        if tt=true/\own=true then ∃FM,ah (eE tab ext) 65 [D.int a.sum,D.int 1,D.int 1099511627776] FM/\(if tt=true/\own=true then FM else D.bool false)=D.bool X
        else(if tt=true/\own=true then D.none else D.bool false)=D.bool X
  else if a.kind=9 then(if a.to=-1/\own=true then D.bool (decide (a.sum=0)) else D.bool false)=D.bool X
  else(if a.to=-1/\at_=true then D.bool (decide (a.sum=0)) else D.bool false)=D.bool X:=by
  intro at_ own hX;by_cases p:ww=false\/(¬a.kind=4/\¬a.form=0)
  .rw[if_pos p] at hX ⊢;exact hX.symm
  rw[if_neg p] at hX ⊢;unfold EY at hX;by_cases k0:a.kind=0\/a.kind=1\/a.kind=2
  .rw[if_pos k0] at hX ⊢;rw[<-hX];by_cases e:tt=true/\a.at_=-1
   .simp[e]
   .rw[if_neg e];cases tt<;>simp at e ⊢;simp[e]
  rw[if_neg k0] at hX ⊢;by_cases k3:a.kind=3\/a.kind=4\/a.kind=5
  .rw[if_pos k3] at hX;rw[if_pos (by omega),<-hX];by_cases e:tt=true/\a.at_=-1
   .rw[if_pos e];refine⟨_,fD _ _ _,?_⟩;cases wi a.sum 0 1099511627776
    .simp
    .simp[e];exact fD _ _ _
   .rw[if_neg e];cases tt<;>simp at e ⊢;simp[e]
  rw[if_neg k3] at hX;rw[if_neg (by omega)];by_cases k6:a.kind=6
  .rw[if_pos k6] at hX ⊢;rw[<-hX];by_cases e:tt=true/\own=true
   .rw[if_pos e];refine⟨_,fD _ _ _,?_⟩;simp[e]
   .rw[if_neg e,if_neg e];cases tt<;>cases own<;>simp at e ⊢
  rw[if_neg k6] at hX ⊢;by_cases k9:a.kind=9
  .rw[if_pos k9] at hX ⊢;rw[<-hX];cases own<;>by_cases e:a.to=-1<;>simp[e]
  rw[if_neg k9] at hX ⊢;rw[<-hX];cases at_<;>by_cases e:a.to=-1<;>simp[e]
 cases h1:aB a.at_ f.signs.length
 .have hf:=fin false false (by simpa [h1] using hX);simp at hf ⊢;refine⟨_,nf,_,Ha,?_⟩;simpa using hf
 have cu:0<=a.at_/\a.at_<f.signs.length:=by simpa [aB] using h1
 have h2:a.at_.toNat<f.signs.length:=by omega
 have hs:dk f a.at_=f.signs[a.at_.toNat]:=by simp[dk,h2]
 simp[cu];refine⟨_,alx f _ _ (.inr cu),_,nf,_,Ha,?_⟩;rw[h1,hs] at hX;have hf:=fin _ _ hX;cases h3:Ej f a.at_ a.part
 .rw[h3] at hf;simpa using hf
 .rw[h3] at hf;simpa [h2] using hf
def Hw (a b:Int):(if a<b then b else a)=max a b:=by split<;>omega
def Oo (a b:Int):(if a<b then D.int b else D.int a)=D.int (max a b):=by
 rw[<-Hw];split<;>rfl
def VQ (f:File)(i:Nat)(a:Act):Int:=
 let x:=if a.at_=-1 then f.bill.day else max f.bill.day (dk f a.at_).day
 if i=0 then x else max x (f.acts.getD (i-1) default).day
def uf (r:Realm)(f:File)(i:Nat):Int:=
 let a:=f.acts.getD i default
 if wi a.part 0 (f.bill.parts-1)=false then 15
 else if aB a.city r.cities.length=false\/wi a.kind 0 9=false then 1
 else if sf r f a=false then 14
 else if wi a.day (VQ f i a) 100000=false then 13 else 0
def aeB {r:Realm}{f:File}{a:Act}(h:sf r f a=true)(hn:¬a.at_=-1):0<=a.at_/\a.at_<f.signs.length:=by
 unfold sf at h;split at h
 .cases h
 have key:E3 f a=true->0<=a.at_/\a.at_<f.signs.length:=λe=>by
  unfold E3 at e;simp only[aA] at e;simpa [aB] using e.1
 unfold EY Xx at h
 repeat' split at h
 all_goals simp only[aA,decide_eq_true_eq] at h
 .exact absurd h.1.2 hn
 .exact absurd h.1.1.2 hn
 .exact key h.1.2.1
 .exact key h.1.2.1
 .exact key h.1.2
def aAt (r:Realm)(hr:Small r)(f:File)(hp:1<=f.bill.parts/\f.bill.parts<=4)(hl:f.signs.length<=100000)(pW:f.acts.length<=100000):ah T 66 [aR r,bQ f] (.int (gd f.acts.length (uf r f))):=by
 refine zyt 128 aEe ?_;have Uu:=hr.cities;have cl:i64.wrap ((r.cities.length:Int)-1)=(r.cities.length:Int)-1:=ax (by omega);have G9:i64.wrap (f.bill.parts-1)=f.bill.parts-1:=ax (by omega);simp[aa1];refine pB f.acts.length (uf r f) (λk=>[.int 0,.int k]) (λ_=>[]) ?_ (λk hk ho=>?_) (λk hk ho hb=>?_) (λhj=>?_)
 .simp
 case' refine_2=>have hb:uf r f k=uf r f k:=rfl
 case' refine_3=>rw[hb]
 case refine_4=>simp[amL,PN,hj]
 all_goals
  have hw:=be hk (by omega);have hs:f.acts.getD k default=f.acts[k]:=by simp[hk]
  clear hb;generalize hX:uf r f k=X at*;unfold uf at hX;simp only[hs] at hX;simp[amL,PN,hk,cl,G9,hw];refine⟨_,fD _ _ _,?_⟩;cases a1:wi f.acts[k].part 0 (f.bill.parts-1)
  .simp[a1] at hX ⊢
   first|exact hX|(exfalso;omega)
  simp[a1] at hX ⊢;refine⟨_,fD _ _ _,?_⟩;rw[oR] at hX;cases a2:wi f.acts[k].city 0 ((r.cities.length:Int)-1)
  .simp[a2] at hX ⊢
   first|exact hX|(exfalso;omega)
  simp[a2] at hX ⊢;refine⟨_,fD _ _ _,?_⟩;cases a3:wi f.acts[k].kind 0 9
  .simp[a3] at hX ⊢
   first|exact hX|(exfalso;omega)
  simp[a3] at hX ⊢;refine⟨_,aAs r hr f f.acts[k] hl,?_⟩;cases a4:sf r f f.acts[k]
  .simp[a4] at hX ⊢
   first|exact hX|(exfalso;omega)
  simp[a4] at hX ⊢;unfold VQ at hX;by_cases k0:k=0
  .subst k0;by_cases e1:f.acts[0].at_=-1
   .simp[e1] at hX;simp[e1];refine⟨_,fD _ _ _,?_⟩;split at hX
    .rename_i e;simp[e]
     first|exact hX|(exfalso;omega)
    .rename_i e
     first|(exfalso;omega)|simp[e]
   .obtain⟨h5,h6⟩:=aeB a4 e1;have h7:f.acts[0].at_.toNat<f.signs.length:=by omega
    have h8:dk f f.acts[0].at_=f.signs[f.acts[0].at_.toNat]:=by simp[dk,h7]
    simp[e1,h8] at hX;simp[e1,h5,h6,h7,Oo,Hw];refine⟨_,fD _ _ _,?_⟩;split at hX
    .rename_i e;simp[e]
     first|exact hX|(exfalso;omega)
    .rename_i e
     first|(exfalso;omega)|simp[e]
  .have bC:i64.wrap ((k:Int)-1)=(k:Int)-1:=ax (by omega);have dq:((k:Int)-1).toNat=k-1:=by omega
   have kj:k-1<f.acts.length:=by omega
   have Da:0<k:=by omega
   by_cases e1:f.acts[k].at_=-1
   .simp[k0,e1,kj] at hX;simp[e1,Da,bC,dq,kj,Oo,Hw];refine⟨by omega,_,fD _ _ _,?_⟩;split at hX
    .rename_i e;simp[e]
     first|exact hX|(exfalso;omega)
    .rename_i e
     first|(exfalso;omega)|simp[e]
   .obtain⟨h5,h6⟩:=aeB a4 e1;have h7:f.acts[k].at_.toNat<f.signs.length:=by omega
    have h8:dk f f.acts[k].at_=f.signs[f.acts[k].at_.toNat]:=by simp[dk,h7]
    simp[k0,e1,kj,h8] at hX;simp[e1,Da,bC,dq,kj,h5,h6,h7,Oo,Hw];refine⟨by omega,_,fD _ _ _,?_⟩;split at hX
    .rename_i e;simp[e]
     first|exact hX|(exfalso;omega)
    .rename_i e
     first|(exfalso;omega)|simp[e]
def qL (a b:Int):Int:=if a<b then-1 else if b<a then 1 else 0
def ahN (a:Int):ah T 164 [.int a] (.bool false):=by
 refine zyt 132 aDU ?_;simp[aaI]
def ad2 (a b:Int):ah T 110 [.int a,.int b] (.int (qL a b)):=by
 refine zyt 131 aDS ?_;simp[aaG];refine⟨_,ahN a,_,ahN b,?_⟩;unfold qL;by_cases h1:a<b
 .simp[h1]
 by_cases h2:b<a<;>simp[h1,h2]
def apc (l:List Int)(hl:l.length<=100000):ah T 109 [ints l] (.int (gd l.length λk=>l.getD k 0)):=by
 refine zyt 133 aDT ?_;simp[aaH];refine pB l.length (λk=>l.getD k 0) (λk=>[.int 0,.int k]) (λ_=>[]) ?_ (λk hk ho=>?_) (λk hk ho hb=>?_) (λhj=>?_)
 .simp
 .have hw:=be hk (by omega);have hx:l[k]=0:=by simpa [hk] using ho
  simp[Yx,If,hk,hx,hw]
 .have hx:¬l[k]=0:=by simpa [hk] using ho
  simp only[bn] at hb ⊢;rw[hb];simp[Yx,If,hk,hx]
 .simp only[bn] at hj ⊢;rw[hj];simp[Yx,If]
def or2 (a b:Int):(gd 2 λk=>[a,b].getD k 0)=if a=0 then b else a:=by
 have e:List.range 2=[0,1]:=rfl;unfold gd;rw[e];by_cases ha:a=0<;>by_cases hb:b=0<;>simp[ha,hb]
def Bh (x y:Fact):Prop:=x.at_<y.at_\/(x.at_=y.at_/\x.kind<y.kind)
instance (x y:Fact):Decidable (Bh x y):=by unfold Bh;infer_instance
def apo (x y:Fact):0<=(if qL x.at_ y.at_=0 then qL x.kind y.kind else qL x.at_ y.at_)↔¬Bh x y:=by
 unfold qL Bh
 repeat' split
 all_goals omega
def zk (f:File)(i:Nat):Int:=
 let x:=f.facts.getD i default
 if wi x.kind 0 4=false then 1 else if aB x.at_ f.signs.length=false then 1 else if wi x.n 0 1=false then 1
 else if i=0 then 0 else if Bh (f.facts.getD (i-1) default) x then 0 else 5
def aAv (f:File)(hl:f.signs.length<=100000)(hlf:f.facts.length<=100000):ah T 67 [bQ f] (.int (gd f.facts.length (zk f))):=by
 refine zyt 130 aEg ?_;have cl:i64.wrap ((f.signs.length:Int)-1)=(f.signs.length:Int)-1:=ax (by omega);simp[aa3];refine pB f.facts.length (zk f) (λk=>[.int 0,.int k]) (λ_=>[]) ?_ (λk hk ho=>?_) (λk hk ho hb=>?_) (λhj=>?_)
 .simp
 case' refine_2=>have hb:zk f k=zk f k:=rfl
 case' refine_3=>rw[hb]
 case refine_4=>simp[amM,PO,hj]
 all_goals
  have hw:=be hk (by omega);have hs:f.facts.getD k default=f.facts[k]:=by simp[hk]
  clear hb;generalize hX:zk f k=X at*;unfold zk at hX;simp only[hs] at hX;simp[amM,PO,hk,cl,hw];refine⟨_,fD _ _ _,?_⟩;cases a1:wi f.facts[k].kind 0 4
  .simp[a1] at hX ⊢
   first|exact hX|(exfalso;omega)
  simp[a1] at hX ⊢;refine⟨_,fD _ _ _,?_⟩;rw[oR] at hX;cases a2:wi f.facts[k].at_ 0 ((f.signs.length:Int)-1)
  .simp[a2] at hX ⊢
   first|exact hX|(exfalso;omega)
  simp[a2] at hX ⊢;refine⟨_,fD _ _ _,?_⟩;cases a3:wi f.facts[k].n 0 1
  .simp[a3] at hX ⊢
   first|exact hX|(exfalso;omega)
  simp[a3] at hX ⊢;by_cases k0:k=0
  .subst k0;simp at hX ⊢
   first|(exfalso;omega)|done
  .have bC:i64.wrap ((k:Int)-1)=(k:Int)-1:=ax (by omega);have dq:((k:Int)-1).toNat=k-1:=by omega
   have kj:k-1<f.facts.length:=by omega
   simp[k0,kj] at hX;simp[k0,bC,dq,kj];refine⟨by omega,_,ad2 _ _,_,ad2 _ _,?_⟩;have ho:=apc [qL f.facts[k-1].at_ f.facts[k].at_,qL f.facts[k-1].kind f.facts[k].kind] (by simp);simp only[nM,sc] at ho;rw[or2] at ho;refine⟨_,ho,?_⟩;have ha:=apo f.facts[k-1] f.facts[k];generalize (if qL f.facts[k-1].at_ f.facts[k].at_=0 then qL f.facts[k-1].kind f.facts[k].kind else qL f.facts[k-1].at_ f.facts[k].at_)=n at*;clear ho;by_cases e:Bh f.facts[k-1] f.facts[k]
   .have hn:¬0<=n:=λh=>ha.1 h e;simp[e] at hX;simp[hn]
    first|done|(exfalso;omega)
   .have hn:0<=n:=ha.2 e;simp[e] at hX;simp[hn]
    first|exact hX|(exfalso;omega)
def yR (f:File)(i:Nat):Int:=
 let x:=f.alters.getD i default
 if wi x.at_ ((if i=0 then 0 else(f.alters.getD (i-1) default).at_)+1) f.signs.length=false then 1 else if wi x.sum 1 1099511627776=false then 3 else 0
structure PaperOK (r:Realm) (f:File):Prop where
 full:(f.signs.length<=40/\f.alters.length<=4)/\f.acts.length<=100/\f.facts.length<=200
 bill:BillOK r f.bill
 ne:f.signs≠[]
 signs:gd f.signs.length (Eh r f)=0
 alters:gd f.alters.length (yR f)=0
 acts:gd f.acts.length (uf r f)=0
 facts:gd f.facts.length (zk f)=0
def aAq (r:Realm)(hs:Small r)(f:File)(Ge:f.OK):∃d,ah T 16 [aR r,bQ f] d/\qC (PaperOK r f) d:=by
 refine ah.ex_of_tree rfl apN aEb ?_;simp[aaY];by_cases hf:(f.signs.length<=40/\f.alters.length<=4)/\f.acts.length<=100/\f.facts.length<=200
 case neg=>
  rw[if_pos (by omega)];exact .no (λh=>hf h.full) (by decide)
 rw[if_neg (by omega)];obtain⟨d,hb,e,rfl,he⟩:=aHn r hs f.bill;refine⟨_,hb,?_⟩;by_cases e0:e=0
 case neg=>
  simp[e0];exact .no (λh=>e0 (he.2 h.bill)) e0
 have Nr:=he.1 e0;simp[e0];by_cases aI:f.signs=[]
 .simp[aI];exact .no (λh=>h.ne aI) (by decide)
 simp[aI];refine pB f.signs.length (Eh r f) (λk=>[.int 0,.int k]) (λ_=>[]) ?_ (λk hk ho=>?_) (λk hk ho hb=>?_) (λhj=>?_)
 .simp
 .have hw:=be hk (by omega);simp[YA,Ih,hk,hw];refine⟨_,alw r hs f Nr.parts k hk (by omega),?_⟩;simp[ho]
 .simp[YA,Ih,hk];refine⟨_,alw r hs f Nr.parts k hk (by omega),?_⟩;simp[ho];exact .no (λh=>ho (by rw[<-hb];exact h.signs)) ho
 simp[YA,Ih];have gZ:∀k,k<f.alters.length->(∀j,j<k->yR f j=0)->i64.wrap ((if k=0 then 0 else(f.alters.getD (k-1) default).at_)+1)=(if k=0 then 0 else(f.alters.getD (k-1) default).at_)+1:=by
  intro k hk hj;refine ax ?_;by_cases k0:k=0
  .rw[if_pos k0];omega
  .rw[if_neg k0];have h1:=hj (k-1) (by omega);have bC:k-1<f.alters.length:=by omega
   have h2:=(Ge.2.2.1.2 _ (bR bC)).1;have h3:f.alters.getD (k-1) default=f.alters[k-1]:=by simp[bC]
   unfold yR at h1;rw[h3] at h1 ⊢;simp only at h1;generalize (if k-1=0 then(0:Int) else(f.alters.getD (k-1-1) default).at_)=L0 at h1;split at h1
   .cases h1
   .rename_i hh;simp[wi] at hh;unfold aX at h2;omega
 refine aG.scan f.alters.length (λk=>yR f k=0) (λk=>[.int 0,.int (if k=0 then 0 else(f.alters.getD (k-1) default).at_),.int k]) (λ_=>[]) ?_ (λk hk m6 ho=>?_) (λk hk m6 ho=>?_) (λGD=>?_)
 .simp
 .have hw:=be hk (by omega);have hl:=gZ k hk m6;generalize hL:(if k=0 then 0 else(f.alters.getD (k-1) default).at_)=L at*;have hs:f.alters.getD k default=f.alters[k]:=by simp[hk]
  unfold yR at ho;simp only[hs,hL] at ho;simp[YB,Ii,hk,hl];refine⟨_,fD _ _ _,?_⟩;cases a1:wi f.alters[k].at_ (L+1) f.signs.length
  .simp[a1] at ho
  simp[a1] at ho ⊢;refine⟨_,fD _ _ _,?_⟩;simp[ho,hw]
 .have hl:=gZ k hk m6;have UD:=TS hk m6 ho;generalize hL:(if k=0 then 0 else(f.alters.getD (k-1) default).at_)=L at*;have hs:f.alters.getD k default=f.alters[k]:=by simp[hk]
  have bad:∀e:Int,e≠0->qC (PaperOK r f) (.int e):=λe h=>.no (λh=>ho (by rw[<-UD];exact h.alters)) h;unfold yR at ho;simp only[hs,hL] at ho;simp[YB,Ii,hk,hl];refine⟨_,fD _ _ _,?_⟩;cases a1:wi f.alters[k].at_ (L+1) f.signs.length
  .simp;exact bad 1 (by decide)
  simp[a1] at ho ⊢;refine⟨_,fD _ _ _,?_⟩;simp[ho];exact bad 3 (by decide)
 have GD:=TU GD;simp[YB,Ii];refine⟨_,aAt r hs f Nr.parts (by omega) (by omega),?_⟩;by_cases e3:gd f.acts.length (uf r f)=0
 case neg=>
  simp[e3];exact .no (λh=>e3 h.acts) e3
 simp[e3];refine⟨_,aAv f (by omega) (by omega),?_⟩;exact⟨_,rfl,λh=>⟨hf,Nr,aI,hj,GD,e3,h⟩,λh=>h.facts⟩
structure SignOK (r:Realm) (f:File) (i:Nat) (s:Sign):Prop where
 part:0<=s.part/\s.part<=f.bill.parts-1
 who:0<=s.who/\s.who<r.firms.length
 city:0<=s.city/\s.city<r.cities.length
 day:uA f i<=s.day/\s.day<=100000
 fits:zm r f i=true
 once:JH f i s=false
def PaperOK.sign {r:Realm}{f:File}(h:PaperOK r f)(i:Nat)(hi:i<f.signs.length):SignOK r f i f.signs[i]:=by
 have h1:=F7 h.signs i hi;have hs:f.signs.getD i default=f.signs[i]:=by simp[hi]
 unfold Eh at h1;simp only[hs] at h1;split at h1
 .cases h1
 rename_i a1;split at h1
 .cases h1
 rename_i a2;split at h1
 .cases h1
 rename_i a3;split at h1
 .cases h1
 rename_i a4;split at h1
 .cases h1
 rename_i a5;simp[wi,aB] at a1 a2 a3;exact⟨⟨by omega,by omega⟩,⟨by omega,by omega⟩,⟨by omega,by omega⟩,⟨by omega,by omega⟩,by simpa using a4,by simpa using a5⟩
structure adX (r:Realm) (f:File) (i:Nat) (a:Act):Prop where
 part:0<=a.part/\a.part<=f.bill.parts-1
 city:0<=a.city/\a.city<r.cities.length
 kind:0<=a.kind/\a.kind<=9
 fits:sf r f a=true
 day:VQ f i a<=a.day/\a.day<=100000
def PaperOK.act {r:Realm}{f:File}(h:PaperOK r f)(i:Nat)(hi:i<f.acts.length):adX r f i f.acts[i]:=by
 have h1:=F7 h.acts i hi;have hs:f.acts.getD i default=f.acts[i]:=by simp[hi]
 unfold uf at h1;simp only[hs] at h1;split at h1
 .cases h1
 rename_i a1;split at h1
 .cases h1
 rename_i a2;split at h1
 .cases h1
 rename_i a3;split at h1
 .cases h1
 rename_i a4;simp[wi,aB] at a1 a2 a4;exact⟨⟨by omega,by omega⟩,⟨by omega,by omega⟩,⟨by omega,by omega⟩,by simpa using a3,by omega⟩
def aCK {r:Realm}{f:File}{i:Nat}(hi:i<f.signs.length)(h:zm r f i=true)(hk:f.signs[i].kind=1\/f.signs[i].kind=4):1<=f.signs[i].sum/\f.signs[i].sum<=1099511627776:=by
 have hs:f.signs.getD i default=f.signs[i]:=by simp[hi]
 unfold zm at h;rw[hs] at h;unfold M5 at h;split at h
 .cases h
 split at h
 .cases h
 unfold TW at h;rcases hk with hk|hk
 .simp[hk,wi] at h;omega
 .simp[hk,wi] at h;omega
def PaperOK.sums {r:Realm}{f:File}(h:PaperOK r f):SumsOK f:=by
 have hr:=h.bill.range;unfold DZ at hr;refine⟨by omega,by omega,λa ha=>?_,λs hs hk=>?_⟩
 .obtain⟨i,hi,rfl⟩:=gQ ha;have h1:=F7 h.alters i hi;have hs:f.alters.getD i default=f.alters[i]:=by simp[hi]
  unfold yR at h1;simp only[hs] at h1;generalize (if i=0 then(0:Int) else(f.alters.getD (i-1) default).at_)=L at h1;split at h1
  .cases h1
  split at h1
  .cases h1
  rename_i a1;simp[wi] at a1;omega
 .obtain⟨i,hi,rfl⟩:=gQ hs;exact aCK hi (h.sign i hi).fits hk
@[simp] def aOy (a0 a1 a2 a3 a4 a5 a6 x:D):dp [a0,a1,a2,a3,a4,a5,a6] 1 [x]=[a0,x,a2,a3,a4,a5,a6]:=zyw
@[simp] def aOz (a0 a1 a2 a3 a4 a5 a6 x:D):dp [a0,a1,a2,a3,a4,a5,a6] 2 [x]=[a0,a1,x,a3,a4,a5,a6]:=zyw
def Hu (a b:Int):(if b<a then b else a)=min a b:=by split<;>omega
def Om (a b:Int):(if b<a then D.int b else D.int a)=D.int (min a b):=by
 rw[<-Hu];split<;>rfl
def DF (a b:Int):(if a<b then a else b)=min b a:=by split<;>omega
def Ht (a b:Int):(if a<b then D.int a else D.int b)=D.int (min b a):=by
 rw[<-DF];split<;>rfl
def kR (r:Realm)(forum:Int)(f:File)(sign day:Int):Owed:=(cw r forum f sign day).owed (rateF r)
structure ORun (r:Realm) (f:File):Prop where
 right:Right r
 rightD:RightD r
 few:FewS f
 realm:RealmOK r
 sums:SumsOK f
 who:∀s,s∈f.signs->0<=s.who/\s.who<r.firms.length
 acts:∀a,a∈f.acts->jI a=true->0<=a.sum/\a.sum<=1099511627776
def Tx {l:List Act}(h:∀a,a∈l->jI a=true->0<=a.sum/\a.sum<=1099511627776):0<=jJ l/\jJ l<=1099511627776:=by
 have key:∀(l:List Act) (c:Int),0<=c/\c<=1099511627776->(∀a,a∈l->jI a=true->0<=a.sum/\a.sum<=1099511627776)->0<=l.foldl wj c/\l.foldl wj c<=1099511627776:=by
  intro l
  induction l with
  |nil=>exact λc h _=>h
  |cons a l ih=>
   intro c hc hl;rw[A8];refine ih _ ?_ λb hb=>hl b (by simp[hb]);unfold wj;split
   .rename_i h;have:=hl a (by simp) h;omega
   .exact hc
 exact key l 0 (by omega) h
def RI (r:Realm)(forum:Int)(f:File)(sign day:Int)(h:ORun r f):ah T 10 [aR r,.int forum,bQ f,.int sign,.int day] (mW (kR r forum f sign day)):=by
 refine zyt 10 aDm ?_;have hf:=h.few;have hg:=hf.at_ day;have hl:r.rates.length<=100000:=by have:=h.rightD.small.rates;omega
 have Vp:=MZ r forum h.sums sign day;simp[aac];refine⟨_,Qq f day (by have:=hf.signs;omega) (by have:=hf.acts;omega) (by have:=hf.alters;omega) (by have:=hf.facts;omega),_,aoO r h.right h.rightD forum f sign day hf,?_⟩;simp;have Vt:(cA r forum f sign day).2=true->0<=sign/\sign<(aH f day).signs.length:=by
  intro e;unfold cA at e;split at e
  .cases e
  .rename_i hs;have e2:(iz r forum f day).file.signs.length=(aH f day).signs.length:=rfl;omega
 unfold kR Due.owed;cases e1:(cA r forum f sign day).2
 .have e2:(cw r forum f sign day).there=false:=e1;simp[e2];rfl
 have e2:¬(cw r forum f sign day).there=false:=by
  have:(cw r forum f sign day).there=true:=e1;simp[this]
 obtain⟨sK,uR⟩:=Vt e1;have dN:¬sign<0:=by omega
 have Dl:¬((aH f day).signs.length:Int)<=sign:=by omega
 rw[if_neg e2];simp[dN,Dl];refine⟨_,ael r h.right h.rightD forum f day hf,?_⟩;have aMD:∀(b:Bool),(cw r forum f sign day).now=b↔(decide (df r forum f day≠-1)&&decide (df r forum f day<=min day 100000))=b:=λb=>Iff.rfl;have mZ:∀q,ah T 33 [aR r,.int forum,.int q,eF (fH r forum f sign day)] (jK (dH r forum q (fH r forum f sign day))):=λq=>R3 r h.right forum q _ hf;have wI:∀a,a∈(aH f day).acts->jI a=true->0<=a.sum/\a.sum<=1099511627776:=λa ha=>h.acts a ((JV _).subset ha);have loop:∀(i x:Int) (Z:Env),Z.r 116=.int 0->Z.r 115=.int (aH f day).acts.length->Z.r 114=acts (aH f day).acts->Z.o 14=.agg [.int (cA r forum f sign day).1.sum,.int i,.int 0,.int x,.int 0,.int 0,.int f.bill.currency]->
  ∀(K:Env->Prop) (Q:Out->Prop),(∀Z':Env,Z'.o 14=.agg [.int (cA r forum f sign day).1.sum,.int i,.int (jJ (aH f day).acts),.int x,.int 0,.int 0,.int f.bill.currency]->(∀j,j≠14->Z'.o j=Z.o j)->K Z')->aG (eE tab ext) (aif Ko) Z (fV K Q):=by
  intro i x Z r1 r2 r3 r4 K Q hK;refine aG.forRounds (aH f day).acts.length (λk=>[.int k]) (λk=>[.agg [.int (cA r forum f sign day).1.sum,.int i,.int (jJ ((aH f day).acts.take k)),.int x,.int 0,.int 0,.int f.bill.currency]]) ?_ (λk hk=>?_) ?_
  .simp[r1,r4,jJ]
  .have hw:=be hk (by have:=hg.acts;omega);have hc:jJ ((aH f day).acts.take (k+1))=wj (jJ ((aH f day).acts.take k)) (aH f day).acts[k]:=by
        rw[gA hk,aff]
   have hcr:=Tx (l:=(aH f day).acts.take k) λa ha=>wI a (aeh ha);have wK:=wI (aH f day).acts[k] (bR hk);rw[hc];generalize jJ ((aH f day).acts.take k)=c at*;simp[amH,PJ,r2,r3,hk,hw];generalize (aH f day).acts[k]=a at*;unfold wj;by_cases e:a.kind=4\/a.kind=5
   .have e':jI a=true:=by simpa [jI] using e
    have cl:i64.wrap (c+a.sum)=c+a.sum:=ax (by have:=wK e';omega);simp[e,e',cl,Hu,Om]
   .have e':¬jI a=true:=by simpa [jI] using e
    simp[e,e']
  .simp[amH,PJ,r2];exact hK _ (by simp) (λj hj=>by simp[hj])
 have Nb:(if(100000:Int)<day then(100000:Int) else day)=min day 100000:=Hu day 100000;have T5:(if(100000:Int)<day then D.int 100000 else D.int day)=D.int (min day 100000):=Om day 100000;simp only[pO,Nb,T5];have bB:(cw r forum f sign day).sum=(cA r forum f sign day).1.sum:=rfl;have dD:(cw r forum f sign day).cur=f.bill.currency:=rfl;have Uw:(cw r forum f sign day).costs=jJ (aH f day).acts:=rfl;rw[bB,dD,Uw];have Nt:=Tx wI;have fin:∀i x:Int,(0<=i/\i<=1099511627776)->(0<=x/\x<=1099511627776)->i64.wrap (i64.wrap (i64.wrap ((cA r forum f sign day).1.sum+i)+jJ (aH f day).acts)+x)=(cA r forum f sign day).1.sum+i+jJ (aH f day).acts+x:=by
  intro i x hi hx;rw[ax (n:=(cA r forum f sign day).1.sum+i) (by omega),ax (n:=(cA r forum f sign day).1.sum+i+_) (by omega),ax (by omega)]
 by_cases kK:¬df r forum f day=-1/\df r forum f day<=min day 100000
 case neg=>
  have hn:(cw r forum f sign day).now=false:=by
   show(decide (df r forum f day≠-1)&&decide (df r forum f day<=min day 100000))=false;rw[JL];intro e;simp only[aA,decide_eq_true_eq] at e;exact kK e
  have hi:(cw r forum f sign day).interest=0:=by unfold Due.interest;rw[hn];rfl
  have hx:(cw r forum f sign day).exch (rateF r)=0:=by unfold Due.exch;rw[if_neg (by simp[hn])]
  obtain⟨i,Gz⟩:∃i:Int,i=0:=⟨0,rfl⟩
  obtain⟨x,z8⟩:∃x:Int,x=0:=⟨0,rfl⟩
  rw[<-Gz] at hi;rw[<-z8] at hx;rw[if_neg kK,hi,hx];have jN:=fin i x (by omega) (by omega);refine loop i x _ (by simp) (by simp) (by simp) (by simp[Gz,z8]) _ _ λZ' h1 h2=>?_;simp[h1,h2,jN,DF,Ht];rfl
 rw[if_pos kK];have hn:(cw r forum f sign day).now=true:=by
  show(decide (df r forum f day≠-1)&&decide (df r forum f day<=min day 100000))=true;simp only[aA,decide_eq_true_eq];exact kK
 have hi:(cw r forum f sign day).interest=ri (cA r forum f sign day).1.sum (cw r forum f sign day).rateF (df r forum f day) (min day 100000):=by unfold Due.interest;rw[if_pos hn];rfl
 have UO:0<=(cw r forum f sign day).interest/\(cw r forum f sign day).interest<=1099511627776:=by
  rw[hi];refine⟨ahI _ _ _ _,?_⟩;unfold ri;split<;>omega
 have hint:=awU (cA r forum f sign day).1.sum (cw r forum f sign day).rateF (df r forum f day) (min day 100000);rw[<-hi] at hint;have Hb:=afI (afs r forum h.sums sign day) (PH h.realm);have dO:sign.toNat<(aH f day).signs.length:=by omega
 have GZ:dk (aH f day) sign=(aH f day).signs[sign.toNat]:=by simp[dk,dO]
 have xk:=h.who _ ((JV _).subset (bR (show sign.toNat<(pG day f.signs).length from dO)));have hex:=arT r h.realm hl f.bill (aH f day).signs[sign.toNat].who (cA r forum f sign day).1.sum (df r forum f day) (min day 100000) xk Vp;have dv:(cw r forum f sign day).own=nV r (aH f day).signs[sign.toNat].who:=by
  show nV r (dk (aH f day) sign).who=_;rw[GZ]
 have dC:(cw r forum f sign day).exch (rateF r)=if gO (dH r forum 17 (fH r forum f sign day))=1 then ss (rateF r) (nV r (aH f day).signs[sign.toNat].who) f.bill.currency (cA r forum f sign day).1.sum (df r forum f day) (min day 100000) else 0:=by
  unfold Due.exch;rw[dv];by_cases e:gO (dH r forum 17 (fH r forum f sign day))=1
  .rw[if_pos ⟨hn,e⟩,if_pos e];rfl
  .rw[if_neg (λq=>e q.2),if_neg e]
 have uP:(cw r forum f sign day).rateF=if f.bill.rate=0 then min 1000 (max 0 (fT (dH r forum 16 (fH r forum f sign day)))) else f.bill.rate:=rfl;generalize (cw r forum f sign day).interest=i at*;generalize (cw r forum f sign day).exch (rateF r)=x at*;generalize (cw r forum f sign day).rateF=q at*;have jN:=fin i x UO (by have:=Hb.1;have:=Hb.2;have:(cw r forum f sign day).sum=(cA r forum f sign day).1.sum:=rfl;omega);by_cases h0:f.bill.rate=0
 .rw[if_pos h0] at uP ⊢;refine⟨_,mZ 16,_,aeI _,?_⟩;have eM:(if(if 0<(D.int (fT (dH r forum 16 (fH r forum f sign day)))).i then(D.int (fT (dH r forum 16 (fH r forum f sign day)))).i else 0)<1000 then if 0<(D.int (fT (dH r forum 16 (fH r forum f sign day)))).i then D.int (fT (dH r forum 16 (fH r forum f sign day))) else D.int 0 else D.int 1000)=D.int q:=by
   rw[uP];simp only[pO,Hw,Oo,Hu,Om]
  rw[eM];refine⟨_,hint,_,mZ 17,_,Kb _,?_⟩;simp only[pO];by_cases ht:gO (dH r forum 17 (fH r forum f sign day))=1
  .rw[if_pos ht] at dC;rw[<-dC] at hex;rw[if_pos ht];simp[sK,uR,dO];refine⟨_,hex,?_⟩;refine loop i x _ (by simp) (by simp) (by simp) (by simp) _ _ λZ' h1 h2=>?_;simp[h1,h2,jN,DF,Ht];rfl
  .rw[if_neg ht] at dC;rw[if_neg ht];refine loop i x _ (by simp) (by simp) (by simp) (by simp[dC]) _ _ λZ' h1 h2=>?_;simp[h1,h2,jN,DF,Ht];rfl
 .rw[if_neg h0] at uP ⊢;rw[uP] at hint;refine⟨_,hint,_,mZ 17,_,Kb _,?_⟩;simp only[pO];by_cases ht:gO (dH r forum 17 (fH r forum f sign day))=1
  .rw[if_pos ht] at dC;rw[<-dC] at hex;rw[if_pos ht];simp[sK,uR,dO];refine⟨_,hex,?_⟩;refine loop i x _ (by simp) (by simp) (by simp) (by simp) _ _ λZ' h1 h2=>?_;simp[h1,h2,jN,DF,Ht];rfl
  .rw[if_neg ht] at dC;rw[if_neg ht];refine loop i x _ (by simp) (by simp) (by simp) (by simp[dC]) _ _ λZ' h1 h2=>?_;simp[h1,h2,jN,DF,Ht];rfl
def dg (x k:Nat):Nat:=match k with
 |0=>x%1073741824
 |1=>x/1073741824%1073741824
 |2=>x/1152921504606846976%1073741824
 |3=>x/1237940039285380274899124224%1073741824
 |_=>x/1329227995784915872903807060280344576%1073741824
def L5 (f:Nat->Nat)(k:Nat):List Int:=[if 0<k then(f 0:Int) else 0,if 1<k then(f 1:Int) else 0,if 2<k then(f 2:Int) else 0,if 3<k then(f 3:Int) else 0,if 4<k then(f 4:Int) else 0]
def D5 (x:Nat):List Int:=[(dg x 0:Int),(dg x 1:Int),(dg x 2:Int),(dg x 3:Int),(dg x 4:Int)]
def zyy (x:Nat):D:=ints (D5 x)
def gB (x k:Nat):dg x k<1073741824:=by unfold dg;split<;>omega
def me {k:Nat}(h:k<5):k=0\/k=1\/k=2\/k=3\/k=4:=by omega
def al4 {t c r:Int}(h:t=c*1073741824+r)(hc:0<=c/\c<8589934592)(hr:0<=r/\r<1073741824):i64.wrap (t.tdiv 1073741824)=c/\t.tmod 1073741824=r:=by
 have h0:0<=t:=by omega
 rw[l6 h0,nJ h0,ax (by omega)];omega
def pK (x y k:Nat):Nat:=match k with
 |0=>0
 |1=>(x%1073741824+y%1073741824)/1073741824
 |2=>(x%1152921504606846976+y%1152921504606846976)/1152921504606846976
 |3=>(x%1237940039285380274899124224+y%1237940039285380274899124224)/1237940039285380274899124224
 |4=>(x%1329227995784915872903807060280344576+y%1329227995784915872903807060280344576)/1329227995784915872903807060280344576
 |_=>(x%1427247692705959881058285969449495136382746624+y%1427247692705959881058285969449495136382746624)/1427247692705959881058285969449495136382746624
def aAF (x y:Nat){k:Nat}(h:k<5):pK x y k+dg x k+dg y k=pK x y (k+1)*1073741824+dg (x+y) k/\pK x y k<=1:=by
 rcases me h with rfl|rfl|rfl|rfl|rfl<;>simp only[pK,dg]<;>omega
def aAP (x y:Nat):ah T 179 [zyy x,zyy y] (zyy (x+y)):=by
 refine zyt 143 aEs ?_;simp[abe];refine aG.forRounds 5 (λk=>[.int (pK x y k),.int k]) (λk=>[ints (L5 (dg (x+y)) k)]) ?_ (λk hk=>?_) ?_
 .simp[pK,L5,ints]
 .have hw:i64.wrap ((k:Int)+1)=(k:Int)+1:=ax (by omega);obtain⟨h1,h2⟩:=aAF x y hk;have h3:=gB x k;have h4:=gB y k;have h5:=gB (x+y) k;have w1:i64.wrap ((pK x y k:Int)+dg x k)=(pK x y k:Int)+dg x k:=ax (by omega);have w2:i64.wrap ((pK x y k:Int)+dg x k+dg y k)=(pK x y k:Int)+dg x k+dg y k:=ax (by omega);obtain⟨q1,q2⟩:=al4 (t:=(pK x y k:Int)+dg x k+dg y k) (c:=pK x y (k+1)) (r:=dg (x+y) k) (by omega) (by omega) (by omega);rcases me hk with rfl|rfl|rfl|rfl|rfl<;>simp[YD,Ik,zyy,D5,L5] at*<;>simp[YD,Ik,zyy,D5,L5,ints,w1,w2,q1,q2,hw]<;>(repeat' (first|exact ax (by omega)|apply And.intro))
 .simp[YD,Ik,L5,zyy,D5,ints]
def Hx (n:Nat):((n:Int)<0)=False:=by simp
def kF (x y k:Nat):Nat:=match k with
 |0=>0
 |1=>if x%1073741824<y%1073741824 then 1 else 0
 |2=>if x%1152921504606846976<y%1152921504606846976 then 1 else 0
 |3=>if x%1237940039285380274899124224<y%1237940039285380274899124224 then 1 else 0
 |4=>if x%1329227995784915872903807060280344576<y%1329227995784915872903807060280344576 then 1 else 0
 |_=>if x%1427247692705959881058285969449495136382746624<y%1427247692705959881058285969449495136382746624 then 1 else 0
def azp (x y:Nat)(jy:y<=x){k:Nat}(h:k<5):(dg x k:Int)-dg y k-kF x y k=(dg (x-y) k:Int)-kF x y (k+1)*1073741824/\kF x y k<=1/\kF x y (k+1)<=1:=by
 rcases me h with rfl|rfl|rfl|rfl|rfl<;>simp only[kF,dg]<;>(repeat' split)<;>omega
def al6 (x y:Nat)(jy:y<=x):ah T 158 [zyy x,zyy y] (zyy (x-y)):=by
 refine zyt 144 aEp ?_;simp[abb];refine aG.forRounds 5 (λk=>[.int (kF x y k),.int k]) (λk=>[ints (L5 (dg (x-y)) k)]) ?_ (λk hk=>?_) ?_
 .simp[kF,L5,ints]
 .have hw:i64.wrap ((k:Int)+1)=(k:Int)+1:=ax (by omega);obtain⟨h1,h2,h6⟩:=azp x y jy hk;have h3:=gB x k;have h4:=gB y k;have h5:=gB (x-y) k;have w1:i64.wrap ((dg x k:Int)-dg y k)=(dg x k:Int)-dg y k:=ax (by omega);have w2:i64.wrap ((dg x k:Int)-dg y k-kF x y k)=(dg x k:Int)-dg y k-kF x y k:=ax (by omega);have w3:i64.wrap ((dg x k:Int)-dg y k-kF x y k+1073741824)=(dg x k:Int)-dg y k-kF x y k+1073741824:=ax (by omega);have w4:i64.wrap (dg (x-y) k:Int)=dg (x-y) k:=ax (by omega);have n4:¬(dg (x-y) k:Int)<0:=by omega
  by_cases c:kF x y (k+1)=1
  .have hn:(dg x k:Int)-dg y k-kF x y k<0:=by omega
   have hv:(dg x k:Int)-dg y k-kF x y k+1073741824=dg (x-y) k:=by omega
   rcases me hk with rfl|rfl|rfl|rfl|rfl<;>simp at c hn hv w1 w2 w3 w4<;>simp[YC,Ij,zyy,D5,L5,ints,w1,w2,w3,w4,Hx,hw,hn,hv,c]<;>(repeat' (first|exact ax (by omega)|apply And.intro))
  .have c0:kF x y (k+1)=0:=by omega
   have hn:¬(dg x k:Int)-dg y k-kF x y k<0:=by omega
   have hv:(dg x k:Int)-dg y k-kF x y k=dg (x-y) k:=by omega
   rcases me hk with rfl|rfl|rfl|rfl|rfl<;>simp at c0 hn hv w1 w2 w3 w4<;>simp[YC,Ij,zyy,D5,L5,ints,w1,w2,w3,w4,Hx,hw,hn,hv,c0]<;>(repeat' (first|exact ax (by omega)|apply And.intro))
 .simp[YC,Ij,L5,zyy,D5,ints]
def HZ (x y:Nat)(hx:x<1427247692705959881058285969449495136382746624)(hy:y<1427247692705959881058285969449495136382746624):ah T 119 [zyy x,zyy y] (.int (if x<y then-1 else if y<x then 1 else 0)):=by
 refine zyt 141 aEl ?_;simp[aa7];refine aG.forLoop (α:=Nat) (λm vr vo=>m<=5/\(∀k,m<=k->k<5->dg x k=dg y k)/\vr=[.int 0,.int ((m:Int)-1)]/\vo=[]) (λm=>m) 5 ⟨by omega,λk h1 h2=>by omega,by simp,by simp⟩ ?_;rintro m vr vo ⟨hm,heq,rfl,rfl⟩
 have hh:∀k,k<5->dg x k<dg y k->(∀j,k<j->j<5->dg x j=dg y j)->x<y:=λk hk h he=>by
  have e1:=he 1;have e2:=he 2;have e3:=he 3;have e4:=he 4;rcases me hk with rfl|rfl|rfl|rfl|rfl<;>simp[dg] at h e1 e2 e3 e4<;>omega
 have NA:∀k,k<5->dg y k<dg x k->(∀j,k<j->j<5->dg x j=dg y j)->y<x:=λk hk h he=>by
  have e1:=he 1;have e2:=he 2;have e3:=he 3;have e4:=he 4;rcases me hk with rfl|rfl|rfl|rfl|rfl<;>simp[dg] at h e1 e2 e3 e4<;>omega
 by_cases h0:m=0
 .subst h0;have e0:=heq 0;have e1:=heq 1;have e2:=heq 2;have e3:=heq 3;have e4:=heq 4;have:x=y:=by simp[dg] at e0 e1 e2 e3 e4;omega
  subst this;simp[PR,D0]
 .obtain⟨k,rfl⟩:∃k,m=k+1:=⟨m-1,by omega⟩
  have hk:k<5:=by omega
  have hgx:∀z,(D5 z).getD k 0=dg z k:=λz=>by rcases me hk with rfl|rfl|rfl|rfl|rfl<;>simp[D5]
  have hl:∀z,(D5 z).length=5:=λz=>rfl;have UL:∀z,(D5 z)[k]'(by rw[hl];exact hk)=dg z k:=λz=>by rw[<-hgx z];simp[hl,hk]
  have UR:(k:Int)<5:=by omega
  have VD:i64.wrap ((k:Int)-1)=(k:Int)-1:=ax (by omega);by_cases c1:dg x k<dg y k
  .have:=hh k hk c1 λj h1 h2=>heq j (by omega) h2;simp[PR,D0,zyy,ints,hl,hk,UR,UL,c1,this]
  .by_cases c2:dg y k<dg x k
   .have h3:=NA k hk c2 λj h1 h2=>heq j (by omega) h2;have h4:¬x<y:=by omega
    simp[PR,D0,zyy,ints,hl,hk,UR,UL,c1,c2,h3,h4]
   .simp[PR,D0,zyy,ints,hl,hk,UR,UL,c1,c2,VD]
    exact⟨k,by omega,by omega,λj h1 h2=>by
     by_cases e:j=k
     .subst e;omega
     .exact heq j (by omega) h2,by omega⟩
def xV (n:Nat)(hn:n<9223372036854775808):ah T 79 [.int n] (zyy n):=by
 refine zyt 137 aEq ?_;simp[abc];refine aG.forRounds 3 (λk=>[.int ((match k with|0=>n|1=>n/1073741824|2=>n/1152921504606846976|_=>n/1237940039285380274899124224:Nat):Int),.int k]) (λk=>[ints (L5 (dg n) k)]) ?_ (λk hk=>?_) ?_
 .simp[L5,ints]
 .have key:∀m:Nat,m<9223372036854775808->i64.wrap ((m:Int).tdiv 1073741824)=((m/1073741824:Nat):Int)/\(m:Int).tmod 1073741824=((m%1073741824:Nat):Int):=λm hm=>by
   rw[l6 (by omega),nJ (by omega),ax (by omega)];omega
  have hw:i64.wrap ((k:Int)+1)=(k:Int)+1:=ax (by omega);have h3:k=0\/k=1\/k=2:=by omega
  rcases h3 with rfl|rfl|rfl
  .obtain⟨k1,k2⟩:=key n hn;have k3:i64.wrap ((n:Int)/1073741824)=((n/1073741824:Nat):Int):=by rw[l6 (by omega)] at k1;exact k1
   have d0:n%1073741824=dg n 0:=rfl;rw[d0] at k2;simp[PU,D1,L5,ints,k1,k2,k3,Hx,hw,-Int.natCast_ediv,-Int.natCast_emod]<;>(try exact ax (by omega))
  .obtain⟨k1,k2⟩:=key (n/1073741824) (by omega);have d0:n/1073741824%1073741824=dg n 1:=rfl;have d1:n/1073741824/1073741824=n/1152921504606846976:=by omega
   rw[d0] at k2;rw[d1] at k1;have k3:=k1;rw[l6 (by omega)] at k3;simp[PU,D1,L5,ints,k1,k2,k3,Hx,hw,-Int.natCast_ediv,-Int.natCast_emod]<;>(try exact ax (by omega))
  .obtain⟨k1,k2⟩:=key (n/1152921504606846976) (by omega);have d0:n/1152921504606846976%1073741824=dg n 2:=rfl;have d1:n/1152921504606846976/1073741824=n/1237940039285380274899124224:=by omega
   rw[d0] at k2;rw[d1] at k1;have k3:=k1;rw[l6 (by omega)] at k3;simp[PU,D1,L5,ints,k1,k2,k3,Hx,hw,-Int.natCast_ediv,-Int.natCast_emod]<;>(try exact ax (by omega))
 .have e3:dg n 3=0:=by simp only[dg];omega
  have e4:dg n 4=0:=by simp only[dg];omega
  simp[PU,D1,L5,zyy,D5,ints,e3,e4]
def Z4 (x:Nat)(h:x<1427247692705959881058285969449495136382746624):x=dg x 0+1073741824*dg x 1+1152921504606846976*dg x 2+1237940039285380274899124224*dg x 3+1329227995784915872903807060280344576*dg x 4:=by
 simp only[dg];omega
def CF {W e0 e1 e2 e3 e4:Nat}(h:W=e0+1073741824*e1+1152921504606846976*e2+1237940039285380274899124224*e3+1329227995784915872903807060280344576*e4)
 (h0:e0<1073741824) (h1:e1<1073741824) (h2:e2<1073741824) (h3:e3<1073741824) (h4:e4<1073741824):dg W 0=e0/\dg W 1=e1/\dg W 2=e2/\dg W 3=e3/\dg W 4=e4:=by
 simp only[dg];omega
def cr (O i d b:Nat):Nat->Nat
 |0=>0
 |k+1=>(cr O i d b k+dg O (i+k)+d*dg b k)/1073741824
def er (O i d b k:Nat):Nat:=(cr O i d b k+dg O (i+k)+d*dg b k)%1073741824
def Mk (O i d b k:Nat):List Int:=(List.range 5).map λj=>((if i<=j/\j<i+k then er O i d b (j-i) else dg O j:Nat):Int)
def aiN (d b k:Nat)(hd:d<1073741824):d*dg b k<=1152921502459363329:=by
 have:=l7 (show d<=1073741823 by omega) (show dg b k<=1073741823 by have:=gB b k;omega);omega
def Tz (O i d b:Nat)(hd:d<1073741824):∀k,cr O i d b k<1073741824
 |0=>by simp[cr]
 |k+1=>by
  have h1:=Tz O i d b hd k;have h2:=gB O (i+k);have h3:=aiN d b k hd;show(cr O i d b k+dg O (i+k)+d*dg b k)/1073741824<1073741824;omega
def pw (i:Nat):Nat:=match i with|0=>1|1=>1073741824|2=>1152921504606846976|3=>1237940039285380274899124224|_=>1329227995784915872903807060280344576
def ao4 (O i d b:Nat)(hi:i<5)(hO:O<1427247692705959881058285969449495136382746624)(hb:b<1427247692705959881058285969449495136382746624)(hW:O+pw i*(d*b)<1427247692705959881058285969449495136382746624):Mk O i d b (5-i)=D5 (O+pw i*(d*b)):=by
 have sO:=Z4 O hO;have sb:d*b=d*dg b 0+1073741824*(d*dg b 1)+1152921504606846976*(d*dg b 2)+1237940039285380274899124224*(d*dg b 3)+1329227995784915872903807060280344576*(d*dg b 4):=by
  conv=>lhs;rw[Z4 b hb]
  simp only[RF,Nat.mul_left_comm d]
 rw[sb] at hW ⊢;have st:∀k,cr O i d b k+dg O (i+k)+d*dg b k=1073741824*cr O i d b (k+1)+er O i d b k:=λk=>(sd _ _).symm;have el:∀k,er O i d b k<1073741824:=λk=>j7 _ (by decide);have z0:cr O i d b 0=0:=rfl;have s0:=st 0;have s1:=st 1;have s2:=st 2;have s3:=st 3;have s4:=st 4;have l0:=el 0;have l1:=el 1;have l2:=el 2;have l3:=el 3;have l4:=el 4;have o0:=gB O 0;have o1:=gB O 1;have o2:=gB O 2;have o3:=gB O 3;clear st el;rcases me hi with rfl|rfl|rfl|rfl|rfl
 .simp only[pw,jh,Nat.reduceAdd] at hW s0 s1 s2 s3 s4 z0 l0 l1 l2 l3 l4 ⊢;generalize d*dg b 0=p0 at*;generalize d*dg b 1=p1 at*;generalize d*dg b 2=p2 at*;generalize d*dg b 3=p3 at*;generalize d*dg b 4=p4 at*;obtain⟨q0,q1,q2,q3,q4⟩:=CF (W:=O+1*(p0+1073741824*p1+1152921504606846976*p2+1237940039285380274899124224*p3+1329227995784915872903807060280344576*p4)) (e0:=er O 0 d b 0) (e1:=er O 0 d b 1) (e2:=er O 0 d b 2) (e3:=er O 0 d b 3) (e4:=er O 0 d b 4) (by omega) l0 l1 l2 l3 l4;unfold D5;rw[q0,q1,q2,q3,q4];rfl
 .simp only[pw,jh,Nat.reduceAdd] at hW s0 s1 s2 s3 s4 z0 l0 l1 l2 l3 l4 ⊢;generalize d*dg b 0=p0 at*;generalize d*dg b 1=p1 at*;generalize d*dg b 2=p2 at*;generalize d*dg b 3=p3 at*;generalize d*dg b 4=p4 at*;obtain⟨q0,q1,q2,q3,q4⟩:=CF (W:=O+1073741824*(p0+1073741824*p1+1152921504606846976*p2+1237940039285380274899124224*p3+1329227995784915872903807060280344576*p4)) (e0:=dg O 0) (e1:=er O 1 d b 0) (e2:=er O 1 d b 1) (e3:=er O 1 d b 2) (e4:=er O 1 d b 3) (by omega) o0 l0 l1 l2 l3;unfold D5;rw[q0,q1,q2,q3,q4];rfl
 .simp only[pw,jh,Nat.reduceAdd] at hW s0 s1 s2 s3 s4 z0 l0 l1 l2 l3 l4 ⊢;generalize d*dg b 0=p0 at*;generalize d*dg b 1=p1 at*;generalize d*dg b 2=p2 at*;generalize d*dg b 3=p3 at*;generalize d*dg b 4=p4 at*;obtain⟨q0,q1,q2,q3,q4⟩:=CF (W:=O+1152921504606846976*(p0+1073741824*p1+1152921504606846976*p2+1237940039285380274899124224*p3+1329227995784915872903807060280344576*p4)) (e0:=dg O 0) (e1:=dg O 1) (e2:=er O 2 d b 0) (e3:=er O 2 d b 1) (e4:=er O 2 d b 2) (by omega) o0 o1 l0 l1 l2;unfold D5;rw[q0,q1,q2,q3,q4];rfl
 .simp only[pw,jh,Nat.reduceAdd] at hW s0 s1 s2 s3 s4 z0 l0 l1 l2 l3 l4 ⊢;generalize d*dg b 0=p0 at*;generalize d*dg b 1=p1 at*;generalize d*dg b 2=p2 at*;generalize d*dg b 3=p3 at*;generalize d*dg b 4=p4 at*;obtain⟨q0,q1,q2,q3,q4⟩:=CF (W:=O+1237940039285380274899124224*(p0+1073741824*p1+1152921504606846976*p2+1237940039285380274899124224*p3+1329227995784915872903807060280344576*p4)) (e0:=dg O 0) (e1:=dg O 1) (e2:=dg O 2) (e3:=er O 3 d b 0) (e4:=er O 3 d b 1) (by omega) o0 o1 o2 l0 l1;unfold D5;rw[q0,q1,q2,q3,q4];rfl
 .simp only[pw,jh,Nat.reduceAdd] at hW s0 s1 s2 s3 s4 z0 l0 l1 l2 l3 l4 ⊢;generalize d*dg b 0=p0 at*;generalize d*dg b 1=p1 at*;generalize d*dg b 2=p2 at*;generalize d*dg b 3=p3 at*;generalize d*dg b 4=p4 at*;obtain⟨q0,q1,q2,q3,q4⟩:=CF (W:=O+1329227995784915872903807060280344576*(p0+1073741824*p1+1152921504606846976*p2+1237940039285380274899124224*p3+1329227995784915872903807060280344576*p4)) (e0:=dg O 0) (e1:=dg O 1) (e2:=dg O 2) (e3:=dg O 3) (e4:=er O 4 d b 0) (by omega) o0 o1 o2 o3 l0;unfold D5;rw[q0,q1,q2,q3,q4];rfl
end Rm
