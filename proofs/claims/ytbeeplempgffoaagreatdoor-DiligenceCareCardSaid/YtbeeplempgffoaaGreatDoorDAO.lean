/-
  Shared texts of this claim.
-/
import Derived.Test.YtbeeplempgffoaaGreatDoorDAN
import Derived.Test.YtbeeplempgffoaaGreatDoorDAL
set_option linter.unusedSimpArgs false
set_option linter.unusedVariables false
namespace Rm
open Go Go.Proofs Cx
@[simp] theorem ajB (a b:D):(D.agg [a,b]).c 1=b:=_root_.id rfl
structure DRun (v:DView):Prop where
 right:Right v.realm
 few:FewS v.file
 cities:∀c,c∈v.realm.cities→nM c
 pay:ax v.file.bill.pay v.realm.cities.length=true
 day:0≤v.file.bill.day∧v.file.bill.day≤100000
theorem DRun.days {v:DView}(h:DRun v)(s:Said)(fr:Int):ak T 92 [cA v,iv s,.int fr] (DC (dh v.city s fr)):=ak8 v h.cities h.pay s fr
theorem auv (v:DView)(h:DRun v):ak T 44 [cA v] (.int v.presented):=by
 refine .of_tree rfl (lA 87 (by kernel_rfl)) axr ?_;have gn:=h.few.signs;have hac:=h.few.acts;generalize hX:v.presented=X;unfold DView.presented at hX;simp[VN];by_cases k0:v.file.bill.tenor.kind=0
 ·rw[if_pos k0] at hX;simp[k0];refine⟨_,PK v h.few 2 0,_,ahK v h.right h.few h.day,?_⟩;rw[←hX];exact Vf v _ _
 rw[if_neg k0] at hX;simp[k0];have A4:v.seen_=if v.file.bill.tenor.kind=1 then rI v.day (fi v.file) v.show_ else 1:=rfl;have KF:ak T 90 [cA v] (DC v.show_):=ahK v h.right h.few h.day;have rest:∀s:Int,v.seen_=s→(∃d,ak (dq tab ext) 91 [cA v] d∧
  if d.i=-1 then
        if v.due=-1 then ak (dq tab ext) 49 [D.list [D.int s,D.int 2]] (D.int X)
        else ∃d,ak (dq tab ext) 89 [cA v,D.int 2,D.int v.due] d∧∃mh,ak (dq tab ext) 46 [cA v,D.int 10] mh∧
         ∃ZQ,ak (dq tab ext) 92 [cA v,mh,D.int v.due] ZQ∧∃uo,ak (dq tab ext) 88 [cA v,d,ZQ] uo∧ak (dq tab ext) 49 [D.list [D.int s,uo]] (D.int X)
  else D.int s=D.int X):=by
  intro s hs;rw[hs] at hX;refine⟨_,ahp v h.few,?_⟩;simp only[Dm];by_cases h1:v.refused=-1
  ·rw[if_neg (by simpa using h1)] at hX;rw[if_pos h1];by_cases h2:v.due=-1
   ·rw[if_pos h2] at hX ⊢;rw[←hX];exact Hk [s,2] (by simp)
   ·rw[if_neg h2] at hX ⊢;refine⟨_,PK v h.few 2 v.due,_,yW v h.right h.few 10,_,h.days _ _,_,Vf v _ _,?_⟩;rw[←hX];exact Hk [s,_] (by simp)
  ·rw[if_pos h1] at hX;rw[if_neg h1,hX]
 by_cases k1:v.file.bill.tenor.kind=1
 ·rw[if_pos k1] at A4;simp[k1];refine⟨_,ahn v.file (by omega) (by omega),_,KF,_,Vf v _ _,?_⟩;exact rest _ A4
 ·rw[if_neg k1] at A4;have hr:=rest _ A4;simp only[alj] at hr;simp[k1];exact hr
theorem auy (v:DView)(h:DRun v):ak T 47 [cA v] (.int v.protested):=by
 refine .of_tree rfl (lA 96 (by kernel_rfl)) axs ?_;have hac:=h.few.acts;generalize hX:v.protested=X;unfold DView.protested at hX;simp[VO];refine⟨_,Ps v h.few,_,yW v h.right h.few 10,_,h.days _ _,?_⟩;generalize dh v.city (v.asked 10) v.dishon=t at*;obtain⟨t1,t2⟩:=t;cases t1
 ·simpa using hX
 simp at hX ⊢;refine aL.forLoop (α:=Nat×Int) (fun s vr vo=>(s.1≤v.file.acts.length∧tA v.file.bill v.dishon t2 (rK (v.asked 9)) (v.file.acts.drop s.1) s.2=X)∧vr=[.int 0,.int s.2,.int s.1]∧vo=[]) (fun s=>v.file.acts.length-s.1) (0,if v.day≤t2 then 2 else 0) ?_ ?_
 ·simp;refine⟨hX,?_⟩;split<;>rfl
 rintro⟨k,b⟩ vr vo ⟨⟨hk,hx⟩,rfl,rfl⟩;simp only at hk hx ⊢;by_cases ar:k<v.file.acts.length
 ·have hw:=bk ar (by omega);rw[NR ar] at hx;unfold tA at hx;simp[ag2,Mn,ar,hw];generalize v.file.acts[k]=a at*;by_cases h1:((¬a.kind=4∨¬a.to=v.file.bill.drawee)∨a.day<v.dishon)∨t2<a.day
  ·rw[if_pos (by simpa [or_assoc] using h1)] at hx;rw[if_pos h1];exact⟨k+1,by omega,b,⟨by omega,hx⟩,rfl,by simp⟩
  rw[if_neg (by simpa [or_assoc] using h1)] at hx;rw[if_neg h1];by_cases h2:a.form=1
  ·rw[if_pos h2] at hx ⊢;refine⟨_,yW v h.right h.few 9,_,Hn _,?_⟩;simp only[Dm];by_cases h3:rK (v.asked 9)=1
   ·rw[if_pos h3] at hx ⊢;exact hx
   ·rw[if_neg h3] at hx ⊢;refine⟨k+1,by omega,_,⟨by omega,hx⟩,?_,by simp⟩;split<;>rfl
  ·rw[if_neg h2] at hx ⊢;exact hx
 ·obtain rfl:k=v.file.acts.length:=by omega
  simp[tA] at hx;simp[ag2,Mn,←hx]
theorem aty (v:DView)(h:DRun v)(hs:0≤v.sign∧v.sign<v.file.signs.length):ak T 48 [cA v] (.int v.notified):=by
 refine .of_tree rfl (lA 100 (by kernel_rfl)) axq ?_;have hac:=h.few.acts;have ar:v.sign.toNat<v.file.signs.length:=by omega
 have xt:v.who=v.file.signs[v.sign.toNat].who:=by simp[DView.who,cZ,ar]
 generalize hX:v.notified=X;unfold DView.notified at hX;simp[VM];refine⟨_,Ps v h.few,_,yW v h.right h.few 12,?_⟩;simp;refine⟨_,h.days _ _,?_⟩;have uB:=fun d=>h.days (v.asked 12) d;generalize v.asked 12=said at*;generalize qT:dh v.city said v.dishon=t at*;obtain⟨t1,t2⟩:=t;cases t1
 ·simpa using hX
 simp at hX ⊢;generalize hN:oB (fun d=>(dh v.city said d).2) v.dishon t2 v.who v.file.acts [] t2=N at hX;refine aL.forLoop (α:=Nat×List Act×Int) (fun s vr vo=>(s.1≤v.file.acts.length∧s.2.1.length≤s.1∧oB (fun d=>(dh v.city said d).2) v.dishon t2 v.who (v.file.acts.drop s.1) s.2.1 s.2.2=N)∧vr=[.int 0,.int s.2.2,.none,.int s.1]∧vo=[acts s.2.1]) (fun s=>v.file.acts.length-s.1) (0,[],t2) ?_ ?_
 ·simp[acts];exact hN
 rintro⟨k,fQ,last⟩ vr vo ⟨⟨hk,hg,hx⟩,rfl,rfl⟩;simp only at hk hg hx ⊢;by_cases Ks:k<v.file.acts.length
 ·have hw:=bk Ks (by omega);rw[NR Ks] at hx;unfold oB at hx;simp[ag1,Mm,Ks,hw,ar,hs];have og:v.file.acts[k]?=some v.file.acts[k]:=by simp[Ks]
  generalize v.file.acts[k]=a at*;by_cases h1:a.kind=5
  case neg=>
   rw[if_pos h1] at hx;rw[if_neg h1];exact⟨k+1,by omega,fQ,last,⟨by omega,by omega,hx⟩,by simp⟩
  rw[if_neg (by simpa using h1)] at hx;rw[if_pos h1];refine aL.forRounds fQ.length (fun j=>[.bool ((decide (v.dishon≤a.day)&&decide (a.day≤t2))||(fQ.take j).any fun b=>decide (b.to=a.who)&&decide (a.day≤(dh v.city said b.day).2)),.int j]) (fun _=>[]) ?_ (fun j hj=>?_) ?_
  ·simp[og];by_cases e:v.dishon≤a.day<;>simp[e]
  ·have sV:=bk hj (by omega);rw[jO hj,YH,←Bool.or_assoc];generalize ((decide (v.dishon≤a.day)&&decide (a.day≤t2))||(fQ.take j).any fun b=>decide (b.to=a.who)&&decide (a.day≤(dh v.city said b.day).2))=A;simp[ag0,Ml,hj,sV,og];cases A
   ·by_cases e:fQ[j].to=a.who
    ·simp[e];exact⟨_,uB fQ[j].day,by simp⟩
    ·simp[e]
   ·simp
  ·simp[ag0,Ml,og,hs,ar];have abP:Bn (fun d=>(dh v.city said d).2) v.dishon t2 fQ a=true↔(v.dishon≤a.day∧a.day≤t2∨∃x,x∈fQ∧x.to=a.who∧a.day≤(dh v.city said x.day).2):=by simp[Bn]
   by_cases h2:Bn (fun d=>(dh v.city said d).2) v.dishon t2 fQ a=true
   ·rw[if_neg (by simp[h2])] at hx;rw[if_pos (abP.1 h2)];rw[xt] at hx;by_cases h3:a.to=v.file.signs[v.sign.toNat].who
    ·rw[if_pos h3] at hx ⊢;rw[←hx] at hX;simpa using hX
    ·rw[if_neg h3] at hx ⊢;refine⟨by omega,_,uB a.day,k+1,by omega,fQ++[a],max last (dh v.city said a.day).2,⟨by omega,by simp;omega,?_⟩,⟨?_,by simp⟩,by simp[acts]⟩
     ·rw[←hx,xt]
     ·simp only[ajB,Dm];exact K7 _ _
   ·rw[if_pos (by simpa using h2)] at hx;rw[if_neg (fun e=>h2 (abP.2 e))];exact⟨k+1,by omega,fQ,last,⟨by omega,by omega,hx⟩,⟨rfl,by simp⟩,rfl⟩
 ·obtain rfl:k=v.file.acts.length:=by omega
  simp[oB] at hx;rw[←hx] at hX;simp[ag1,Mm];by_cases e:last<v.day
  ·rw[if_neg (by simp),if_pos e] at hX;simp[e,hX]
  ·rw[if_neg (by simp),if_neg e] at hX;simp[e,hX]
theorem acU (r:Realm)(hr:Right r)(hd:RightD r)(forum:Int)(f:File)(sign day:Int)(hf:FewS f):ak T 43 [aQ r,.int forum,bT f,.int sign,.int day] (cA (gJ r forum f sign day)):=by
 refine .of_tree rfl (lA 5 (by kernel_rfl)) axk ?_;simp[VH];refine⟨_,UT f day (by have:=hf.signs;omega) (by have:=hf.acts;omega) (by have:=hf.alters;omega) (by have:=hf.facts;omega),_,YR r hr hd forum f day hf,?_⟩;simp;rfl
theorem arh (r:Realm)(hr:Right r)(hd:RightD r)(forum:Int){f:File}(sign day:Int)(hf:FewS f)(hp:ax f.bill.pay r.cities.length=true)(hb:0≤f.bill.day∧f.bill.day≤100000):DRun (gJ r forum f sign day):=
 ⟨hr,hf.at_ day,hd.cities,hp,hb⟩
theorem YD (r:Realm)(hr:Right r)(hd:RightD r)(forum:Int)(f:File)(day:Int)(hf:FewS f):ak T 19 [aQ r,.int forum,bT f,.int day] (.int (JG r forum f day)):=by
 refine .of_tree rfl (lA 101 (by kernel_rfl)) axh ?_;simp[VE];exact⟨_,acU r hr hd forum f 0 day hf,Ps _ (hf.at_ day)⟩
@[simp] theorem aGE (x:DView)(a0 a1 a2 a3 a4 a5 a6 a7 a8 a9 gy ib ic ij il jj jk jP jQ v5 v7 v8 v9 wc Cw Cy Cz CA CB CC CD:D):(dm [a0,a1,a2,a3,a4,a5,a6,a7,a8,a9,gy,ib,ic,ij,il,jj,jk,jP,jQ,v5,v7,v8,v9,wc,Cw,Cy,Cz,CA,CB,CC,CD] 0 [strs x.realm.currencies,mg x.realm.cities,groups x.realm.groups,firms x.realm.firms,orders x.realm.orders,usances x.realm.usances,rates x.realm.rates,halts x.realm.halts,.int x.forum,.int x.file.bill.drawer,.int x.file.bill.drawee,.int x.file.bill.payee,.int x.file.bill.sum,.int x.file.bill.currency,.int x.file.bill.tenor.kind,.int x.file.bill.tenor.n,.int x.file.bill.tenor.unit,.int x.file.bill.day,.int x.file.bill.city,.int x.file.bill.pay,.int x.file.bill.need,.int x.file.bill.rate,.int x.file.bill.flags,.int x.file.bill.parts,signs x.file.signs,alters x.file.alters,acts x.file.acts,facts x.file.facts,.int x.sign,.int x.day,.int x.due])[24]?.getD D.none=signs x.file.signs:=_root_.id rfl
@[simp] theorem aGF (x:DView)(a0 a1 a2 a3 a4 a5 a6 a7 a8 a9 gy ib ic ij il jj jk jP jQ v5 v7 v8 v9 wc Cw Cy Cz CA CB CC CD:D):(dm [a0,a1,a2,a3,a4,a5,a6,a7,a8,a9,gy,ib,ic,ij,il,jj,jk,jP,jQ,v5,v7,v8,v9,wc,Cw,Cy,Cz,CA,CB,CC,CD] 0 [strs x.realm.currencies,mg x.realm.cities,groups x.realm.groups,firms x.realm.firms,orders x.realm.orders,usances x.realm.usances,rates x.realm.rates,halts x.realm.halts,.int x.forum,.int x.file.bill.drawer,.int x.file.bill.drawee,.int x.file.bill.payee,.int x.file.bill.sum,.int x.file.bill.currency,.int x.file.bill.tenor.kind,.int x.file.bill.tenor.n,.int x.file.bill.tenor.unit,.int x.file.bill.day,.int x.file.bill.city,.int x.file.bill.pay,.int x.file.bill.need,.int x.file.bill.rate,.int x.file.bill.flags,.int x.file.bill.parts,signs x.file.signs,alters x.file.alters,acts x.file.acts,facts x.file.facts,.int x.sign,.int x.day,.int x.due])[30]?.getD D.none=.int x.due:=_root_.id rfl
@[simp] theorem aHa (a0 a1 a2 a3 x:D):dm [a0,a1,a2,a3] 0 [x]=[x,a1,a2,a3]:=_root_.id rfl
@[simp] theorem aHb (a0 a1 a2 a3 x:D):dm [a0,a1,a2,a3] 1 [x]=[a0,x,a2,a3]:=_root_.id rfl
@[simp] theorem aHc (a0 a1 a2 a3 x:D):dm [a0,a1,a2,a3] 2 [x]=[a0,a1,x,a3]:=_root_.id rfl
theorem NO (r:Realm)(hr:Right r)(hd:RightD r)(forum:Int)(f:File)(sign day:Int)(hf:FewS f)(hp:ax f.bill.pay r.cities.length=true)(hb:0≤f.bill.day∧f.bill.day≤100000):
 ak T 18 [aQ r,.int forum,bT f,.int sign,.int day] (wK (jw r forum f sign day)):=by
 refine .of_tree rfl (lA 4 (by kernel_rfl)) axi ?_;have hR:=arh r hr hd forum sign day hf hp hb;have aqh:(gJ r forum f sign day).sign=sign:=rfl;unfold jw;simp[VF];refine⟨_,acU r hr hd forum f sign day hf,?_⟩;generalize gJ r forum f sign day=v at*;subst aqh;simp;unfold DView.kept;by_cases h1:v.sign<0∨(v.file.signs.length:Int)≤v.sign
 ·rw[if_pos h1,if_pos h1];rfl
 rw[if_neg h1,if_neg h1];refine⟨_,auv v hR,?_⟩;simp;by_cases h2:v.due=-1
 ·simp[h2];refine⟨_,Hk [v.presented,2,2] (by simp),?_⟩;rfl
 ·simp[h2];refine⟨_,yW v hR.right hR.few 8,_,auy v hR,_,aiS _ _,_,yW v hR.right hR.few 11,_,aty v hR ⟨by omega,by omega⟩,_,aiS _ _,?_⟩;simp;refine⟨_,Hk [_,_,_] (by simp),?_⟩;rfl
end Rm
namespace Rm
open Go Go.Proofs Cx
theorem alm {r:Realm}{b:Bill}(hr:RightD r)(hc:dv r=0)(Qe:ax b.city r.cities.length=true)(eB:ax b.pay r.cities.length=true)(hd:aU b.day=true)(hk:b.tenor.kind=3)(hu:b.tenor.unit=0)
 (hn:aU b.tenor.n=true) {g:Int} (hg:0≤g∧g≤20000) (hs:b.tenor.n+g≤100000):pB r b (-1) g=g9 r b.pay (b.tenor.n+g):=by
 have gU:=MO r hr.small;rw[hc] at gU;have iY:0≤b.tenor.n∧b.tenor.n≤100000:=by simpa [aU] using hn
 have xm:=U4 r hr.halts b.pay (b.tenor.n+g) (by simpa [ax] using eB) hr.cities (by omega) (by omega);have hb:ak T 78 [aQ r,db b,.int (-1)] (.tup [.int b.tenor.n,.int 0]):=by
  refine .of_tree rfl wk yC ?_;simp[nO,hk]
 have h:ak T 36 [aQ r,db b,.int (-1),.int g] (.tup [.int (g9 r b.pay (b.tenor.n+g)).1,.int (g9 r b.pay (b.tenor.n+g)).2]):=by
  have uF:=Bg r b.city;have abv:=Bg r b.pay;have D7:=uY b.day;have hi3:=uY b.tenor.n;have hi4:=Cv b.tenor;rw[Qe] at uF;rw[eB] at abv;rw[hd] at D7;rw[hn] at hi3;rw[show lV b.tenor=false from by simp[lV,hk]] at hi4;have hw:IntKind.i64.wrap (b.tenor.n+g)=b.tenor.n+g:=aJ (by omega);have lH:¬g<0:=by omega
  have fR:¬20000<g:=by omega
  have eY:¬100000<b.tenor.n+g:=by omega
  refine .of_tree rfl Oi XG ?_;simp[G1];refine⟨_,gU,?_⟩;simp;refine⟨_,uF,?_⟩;simp;refine⟨_,abv,?_⟩;simp;refine⟨_,D7,?_⟩;simp[hk,hu,lH,fR];refine⟨_,hi4,?_⟩;simp;refine⟨_,hb,?_⟩;simp;refine⟨_,hi3,?_⟩;simp[hw,eY];refine⟨_,xm,?_⟩;simp
 have h2:=h.det (NH r hr b (-1) g);simp at h2;exact Prod.ext h2.1.symm h2.2.symm
end Rm
namespace Rm
open Go Go.Proofs Cx
def vR:Order:=⟨⟨#[103,101,110,101,118,97]⟩,false,[],[⟨8,⟨1,1,[]⟩⟩,⟨9,⟨2,15,[]⟩⟩,⟨10,⟨0,2,[]⟩⟩]⟩
def ga:Realm:=⟨[⟨#[102,114,97,110,99]⟩],[⟨⟨#[76,121,111,110]⟩,0,0,[],[],[]⟩],[⟨0⟩],[⟨⟨#[97]⟩,0,0⟩,⟨⟨#[98]⟩,0,0⟩],[vR],[],[],[]⟩
def rS:Bill:=⟨0,1,0,5,0,⟨3,10,0⟩,2,0,0,-1,0,1,1⟩
def fj (on form:Int):File:=⟨rS,[⟨0,0,0,-1,-1,0,2,0,0⟩],[],⟨2,0,1,0,-1,0,10,0,0⟩::(if 0≤form then[⟨4,0,1,0,-1,0,on,0,form⟩] else[]),[]⟩
set_option maxRecDepth 10000 in
theorem aAp:ak T 31 [] (aQ ga):=by
 refine .of_tree rfl (lA 2 (by kernel_rfl)) axz ?_;simp[VT];kernel_rfl
set_option maxRecDepth 10000 in
theorem Cd (on form:Int):ak T 32 [.int on,.int form] (bT (fj on form)):=by
 refine .of_tree rfl (lA 3 (by kernel_rfl)) axB ?_;by_cases h:0≤form
 ·have e:fj on form=⟨rS,[⟨0,0,0,-1,-1,0,2,0,0⟩],[],[⟨2,0,1,0,-1,0,10,0,0⟩,⟨4,0,1,0,-1,0,on,0,form⟩],[]⟩:=by simp[fj,h]
  rw[e];simp[Nl,h];rfl
 ·have e:fj on form=⟨rS,[⟨0,0,0,-1,-1,0,2,0,0⟩],[],[⟨2,0,1,0,-1,0,10,0,0⟩],[]⟩:=by simp[fj,h]
  rw[e];simp[Nl,h];rfl
theorem aAw:Small ga:=by
 refine⟨by decide,by decide,by decide,by decide,by decide,by decide,by decide,by decide,?_,?_,?_⟩
 ·intro c hc;obtain rfl:c=⟨⟨#[76,121,111,110]⟩,0,0,[],[],[]⟩:=by simpa [ga] using hc
  simp
 ·intro o ho;obtain rfl:o=vR:=by simpa [ga] using ho
  simp[vR]
 ·intro x hx;simp[ga] at hx
theorem Yq:RightD ga:=⟨aAw,by decide,fun h hh=>by simp[ga] at hh⟩
theorem ai0:Right ga:=by
 refine⟨?_,by decide,?_⟩
 ·intro o ho;obtain rfl:o=vR:=by simpa [ga] using ho
  exact⟨by decide,fun ch h=>by simp[vR] at h⟩
 ·intro o ho;obtain rfl:o=vR:=by simpa [ga] using ho
  refine⟨⟨⟨by decide,fun ch h=>by simp[vR] at h⟩,by decide,?_⟩,by decide⟩;intro x hx;simp[vR] at hx;rcases hx with rfl|rfl|rfl
  all_goals exact⟨by unfold aW;decide,.mk _ _ [] (by unfold aW;omega) (by unfold aW;omega) (by decide) (fun _ h=>by cases h)⟩
theorem G5 (on form day:Int)(h1:(aE (fj on form) day).signs≠[])(h3:max (jb (eK ga 0 6 (aE (fj on form) day) day)) 0=0):eg ga 0 (fj on form) day=10:=by
 have h2:fi (aE (fj on form) day)=-1:=by
  unfold fi;have:(aE (fj on form) day).acts.find? (jI (aE (fj on form) day))=none:=by
   refine nS.2 fun a _=>?_;simp[jI,aE,fj,rS]
  rw[this];rfl
 have h4:pB ga rS (-1) 0=g9 ga 0 10:=alm (b:=rS) Yq (by kernel_rfl) (by decide) (by decide) (by decide) rfl rfl (by decide) (by decide) (by decide);have h5:g9 ga 0 10=(10,0):=by kernel_rfl
 unfold eg;rw[if_neg h1,h2,h3,show(fj on form).bill=rS from rfl,h4,h5];simp
theorem aAr:jw ga 0 (fj 0 (-1)) 0 12=⟨1,2,1,2⟩:=by
 unfold jw gJ;rw[G5 0 (-1) 12 (by decide) (by kernel_rfl)];kernel_rfl
theorem aAs:jw ga 0 (fj 0 (-1)) 0 13=⟨1,0,1,0⟩:=by
 unfold jw gJ;rw[G5 0 (-1) 13 (by decide) (by kernel_rfl)];kernel_rfl
theorem aAt:jw ga 0 (fj 12 0) 0 40=⟨1,1,1,1⟩:=by
 unfold jw gJ;rw[G5 12 0 40 (by decide) (by kernel_rfl)];kernel_rfl
theorem aAu:jw ga 0 (fj 12 1) 0 40=⟨1,2,1,2⟩:=by
 unfold jw gJ;rw[G5 12 1 40 (by decide) (by kernel_rfl)];kernel_rfl
theorem aAv:jw ga 0 (fj 12 0) 0 1=⟨0,0,0,0⟩:=by
 have h:eg ga 0 (fj 12 0) 1=-1:=by
  unfold eg;rw[if_pos (by decide)]
 unfold jw gJ;rw[h];rfl
theorem aAq:JG ga 0 (fj 0 (-1)) 12=10:=by
 have h:(DView.mk ga 0 (aE (fj 0 (-1)) 12) 0 12 10).dishon=10:=by kernel_rfl
 unfold JG gJ;rw[G5 0 (-1) 12 (by decide) (by kernel_rfl)];exact h
theorem aiZ (on form:Int):FewS (fj on form):=by
 refine⟨by simp[fj],by simp[fj],?_,by simp[fj]⟩;unfold fj;split<;>simp
theorem av7:ak T 14 [] (.bool true):=by
 have k:=fun on form day=>NO ga ai0 Yq 0 (fj on form) 0 day (aiZ on form) (show ax rS.pay _=true by decide) (show 0≤rS.day∧rS.day≤100000 by decide);have k1:=k 0 (-1) 12;have k2:=k 0 (-1) 13;have k3:=k 12 0 40;have k4:=k 12 1 40;have k5:=k 12 0 1;rw[aAr] at k1;rw[aAs] at k2;rw[aAt] at k3;rw[aAu] at k4;rw[aAv] at k5;have k6:=YD ga ai0 Yq 0 (fj 0 (-1)) 12 (aiZ _ _);rw[aAq] at k6;refine .of_tree rfl (lA 1 (by kernel_rfl)) axA ?_;simp[VU];refine⟨_,aAp,_,Cd 0 (-1),?_⟩;simp;refine⟨_,k1,_,Cd 0 (-1),_,k2,_,Cd 12 0,_,k3,_,Cd 12 1,_,k4,_,Cd 12 0,_,k5,?_⟩;simp;refine⟨_,Cd 0 (-1),_,k6,?_⟩;simp;exact⟨rfl,rfl,rfl,rfl,rfl,rfl,rfl,rfl,rfl,rfl,rfl,rfl,rfl,rfl,rfl,rfl,rfl,rfl,rfl,rfl⟩
end Rm
namespace Rm
open Go Go.Proofs Cx
def akg (r:Realm)(f:File):Prop:=Av r f=true∧PaperOK r f
theorem amj {r:Realm}{f:File}(h:qM r f=true)(hc:dv r=0):Av r f=true:=by simp[Av,h,hc]
theorem akh (r:Realm)(hr:r.OK)(f:File)(Ax:f.OK):∃d,ak T 15 [aQ r,bT f] d∧∃b:Bool,d=.bool b∧(b=true→akg r f):=by
 refine ak.ex_of_tree rfl ajT axy ?_;simp[VS];refine⟨_,avf r f hr,?_⟩;cases e1:qM r f
 ·simp
 have hs:Small r:=PF hr (by simp only[qM,az] at e1;exact e1.1.1);simp;refine⟨_,agw r hs,?_⟩;by_cases e2:dv r=0
 case neg=>simp[e2]
 simp[e2];obtain⟨d,hd,e,rfl,he⟩:=afO r hs f Ax;refine⟨_,hd,?_⟩;simp;by_cases e0:e=0
 ·exact .inr ⟨e0,amj e1 e2,he.1 e0⟩
 ·exact .inl e0
instance (a b:Int):Decidable (ahQ a b):=by unfold ahQ;infer_instance
theorem Zr {r:Realm}{f:File}(h:PaperOK r f):ax f.bill.pay r.cities.length=true:=by
 have:=h.bill.where_;simp only[tY,az] at this;exact this.2
theorem akd {r:Realm}{f:File}(h:PaperOK r f):0≤f.bill.day∧f.bill.day≤100000:=by
 have:=h.bill.range;unfold ym at this;omega
end Rm
namespace Rm
open Go Go.Proofs Cx
structure Sees (f g:File) (s:Int):Prop where
 bill:g.bill=f.bill
 there:ax s f.signs.length=true
 there':ax s g.signs.length=true
 sign:g.signs.getD s.toNat default=f.signs.getD s.toNat default
 alt:pv g s=pv f s
 fact:∀k,fo g k s=fo f k s
theorem ajS (r:Realm)(forum q:Int){c c':Case}(h:Sees (aE c.file c.day) (aE c'.file c'.day) c.sign)(hs:c'.sign=c.sign)(hh:c'.holder=c.holder)(hd:c'.defence=c.defence)(hu:c'.due=c.due)(sN:iy c=c.sign):
 gR r forum q c'=gR r forum q c:=by
 have e0:iy (aI c')=iy (aI c):=by unfold iy;rw[show(aI c').holder=(aI c).holder from hh]
 have e2:iy (aI c)=c.sign:=sN;have e1:kM (aI c')=kM (aI c):=by
  have i1:ax c.sign (aI c).file.signs.length=true:=h.there;have i2:ax c.sign (aI c').file.signs.length=true:=h.there';have i3:c.sign<(aI c).file.signs.length:=by simp[ax] at i1;omega
  have i4:c.sign<(aI c').file.signs.length:=by simp[ax] at i2;omega
  unfold kM;rw[e0,e2,show(aI c').sign=c.sign from hs,show(aI c).sign=c.sign from rfl,show(aI c').holder=(aI c).holder from hh,show(aI c').due=(aI c).due from hu,i1,i2,decide_eq_true i3,decide_eq_true i4]
 have gn:(aI c').file.signs.getD (aI c').sign.toNat default=(aI c).file.signs.getD (aI c).sign.toNat default:=by
  rw[show(aI c').sign=c.sign from hs];exact h.sign
 have hv:dC r (aI c')=dC r (aI c):=by
  unfold dC;rw[e1,gn];split
  ·generalize (aI c).file.signs.getD (aI c).sign.toNat default=s;have h1:nJ (aI c') s=nJ (aI c) s:=by
        unfold nJ;rw[show(aI c').file.bill=(aI c).file.bill from h.bill,show(aI c').defence=(aI c).defence from hd,show(aI c').due=(aI c).due from hu]
   have h2:nK r (aI c') s=nK r (aI c) s:=by
        have ha:pv (aI c').file (aI c').sign=pv (aI c).file (aI c).sign:=by
         rw[show(aI c').sign=c.sign from hs];exact h.alt
        unfold nK;rw[ha,show(aI c').file.bill=(aI c).file.bill from h.bill,show(aI c').due=(aI c).due from hu]
   unfold wP;rw[h1,h2,e0,e2,show(aI c').sign=c.sign from hs,show(aI c).sign=c.sign from rfl];have hf:∀k,fo (aI c').file k c.sign=fo (aI c).file k c.sign:=fun k=>h.fact k;rw[hf,hf,hf,hf,hf]
  ·rfl
 have hp:fh r forum (aI c')=fh r forum (aI c):=by
  have KG:cZ (aI c').file (aI c').sign=cZ (aI c).file (aI c).sign:=gn;have ho:dR r forum (aI c')=dR r forum (aI c):=by
   unfold dR;rw[KG,show(aI c').file.bill=(aI c).file.bill from h.bill]
  have hb:iT r forum (aI c')=iT r forum (aI c):=by
   unfold iT;rw[KG]
  unfold fh;simp only[ho,hb]
 unfold gR dN;rw[hv,hp]
theorem Zf (f:File)(s:Int):pv f s=true↔∃a,a∈f.alters∧a.at_≤s:=by
 unfold pv;rw[Cl];constructor
 ·rintro⟨k,hk,h⟩;have bo:=gf.1 hk;simp[bo] at h;exact⟨f.alters[k],cv bo,h⟩
 ·rintro⟨a,ha,h⟩;obtain⟨k,hk,rfl⟩:=gP ha;exact⟨k,gf.2 hk,by simpa [hk] using h⟩
theorem Ze (f:File)(x s:Int)(h:s<(iQ x f.signs).length):pv (aE f x) s=pv f s:=by
 rw[qx,Zf,Zf];constructor
 ·rintro⟨a,ha,h⟩;exact⟨a,(ei.1 ha).1,h⟩
 ·rintro⟨a,ha,h2⟩;exact⟨a,ei.2 ⟨ha,by simp[ir];omega⟩,h2⟩
theorem Sorted.sees {f:File}(h:Sorted f){x y:Int}(gp:x≤y){i:Nat}(hi:i<(aE f x).signs.length):Sees (aE f x) (aE f y) (i:Int):=by
 obtain⟨m,h1,h2,h3⟩:=h.signs_app gp;have eN:i<(aE f y).signs.length:=by rw[h1,l6];omega
 have j1:ax (i:Int) (iQ x f.signs).length=true:=by have:i<(iQ x f.signs).length:=hi;simp[ax];omega
 have j2:ax (i:Int) (iQ y f.signs).length=true:=by have:i<(iQ y f.signs).length:=eN;simp[ax];omega
 refine⟨rfl,j1,j2,?_,?_,fun k=>?_⟩
 ·rw[h1];simp[nT hi]
 ·rw[Ze f x i (by simp[ax] at j1;omega),Ze f y i (by simp[ax] at j2;omega)]
 ·rw[aad,aad,j1,j2]
theorem Of (f:File)(x:Int):aE {f with facts:=[]} x={aE f x with facts:=[]}:=rfl
theorem akf (r:Realm)(forum q:Int){f:File}(h:Sorted f){x y:Int}(gp:x≤y)(hi:0<(aE f x).signs.length):
 eK r forum q (aE f y) y=eK r forum q (aE f x) x:=by
 unfold eK;refine ajS r forum q (c:=⟨{aE f x with facts:=[]},0,-1,-1,-1,x⟩) ?_ rfl rfl rfl rfl (by simp[iy]);show Sees (aE {aE f x with facts:=[]} x) (aE {aE f y with facts:=[]} y) 0;rw[Of,Of,Hq f (yN x),Hq f (yN y)];obtain⟨a1,a2,a3,a4,a5,a6⟩:=h.sees gp hi;exact⟨a1,a2,a3,a4,a5,fun k=>rfl⟩
theorem M1 {f:File}(h0:f.bill.tenor.kind≠0)(h1:f.bill.tenor.kind≠1):fi f=-1:=by
 have hs:f.acts.find? (jI f)=none:=by
  rw[nS];intro a _;simp[jI,h0]
 unfold fi;rw[hs];unfold fB eT;simp[h1,eQ]
theorem as2 {r:Realm}(hr:RightD r)(forum:Int){f:File}(h:Sorted f){x y:Int}(gp:x≤y)(hm:eg r forum f x≠-1):eg r forum f y=eg r forum f x:=by
 unfold eg at hm ⊢;by_cases aA:(aE f x).signs=[]
 ·rw[if_pos aA] at hm;exact absurd rfl hm
 have AZ:0<(aE f x).signs.length:=vX.2 aA;have QD:(aE f y).signs≠[]:=by
  obtain⟨m,h1,_,_⟩:=h.signs_app gp;rw[h1];simp[aA]
 rw[if_neg aA] at hm ⊢;rw[if_neg QD,akf r forum 6 h gp AZ];have hs:fi (aE f y)=fi (aE f x):=by
  by_cases hk:f.bill.tenor.kind=0∨f.bill.tenor.kind=1
  ·rcases awi h gp with⟨h1,h2,h3⟩|⟨h1,h2⟩
   ·exact h3
   ·exfalso;have ou:lV f.bill.tenor=true:=by simp[lV,hk]
    have h0:∀g,(ki r f.bill (-1) g).2≠0:=by
        intro g;unfold ki;rw[ou];split
        ·simp
        split
        ·simp
        split
        ·simp
        rw[if_pos ⟨rfl,rfl⟩];simp
    rw[Dp hr,h1,if_pos (h0 _)] at hm;exact hm rfl
  ·rw[M1 (f:=aE f y) (fun e=>hk (.inl e)) (fun e=>hk (.inr e)),M1 (f:=aE f x) (fun e=>hk (.inl e)) (fun e=>hk (.inr e))]
 rw[hs]
theorem awn {r:Realm}(hh:jf r)(city:Int){d:Int}(h0:0≤d)(hd:d≤100001):(g9 r city d).2=0→0≤(g9 r city d).1∧(g9 r city d).1≤100000:=by
 unfold g9;generalize r.cities.getD city.toNat default=c;generalize cD r city=o;have key:∀(n:Nat) (d:Int),0≤d→d≤100001→(100002-d).toNat≤n→(j5 r c o n d).2=0→0≤(j5 r c o n d).1∧(j5 r c o n d).1≤100000:=by
  intro n
  induction n with
  |zero=>intro d h0 h1 h2;omega
  |succ n ih=>
   intro e h1 h2 h3;have A7:=GO hh o (100002-e).toNat e h2;rw[tR];change e≤dg r o e∧dg r o e≤100001 at A7;generalize dg r o e=x at*;have ko:=th (c:=c) (d:=x);by_cases he:(bP c x).2=0
   ·obtain⟨g1,g2,g3⟩:=ko he;rw[if_neg (by simp[he])];by_cases hy:(bP c x).1=x
    ·rw[if_pos hy];intro _;have e1:((x,0):Int×Int).1=x:=rfl;omega
    ·rw[if_neg hy];exact ih _ (by omega) (by omega) (by omega)
   ·rw[if_pos he];intro h;cases h
 exact key _ d h0 hd (bK _)
theorem as3 {r:Realm}(hr:RightD r)(forum:Int)(f:File)(day:Int):eg r forum f day=-1∨(0≤eg r forum f day∧eg r forum f day≤100000):=by
 unfold eg;by_cases aA:(aE f day).signs=[]
 ·rw[if_pos aA];exact .inl rfl
 rw[if_neg aA,Dp hr];generalize fi (aE f day)=sn;generalize max (jb (eK r forum 6 (aE f day) day)) 0=g;by_cases he:(ki r f.bill sn g).2=0
 case neg=>rw[if_pos he];exact .inl rfl
 rw[if_neg (by simp[he])];right;unfold ki at he ⊢;split at he
 ·cases he
 rename_i c1;rw[if_neg c1];split at he
 ·cases he
 rename_i c2;rw[if_neg c2];split at he
 ·cases he
 rename_i c3;rw[if_neg c3];split at he
 ·cases he
 rename_i c4;rw[if_neg c4];generalize gz r.usances f.bill sn=B at*;unfold u7 at he ⊢;split at he
 ·rename_i hb;exact absurd he hb
 rename_i c5;rw[if_neg c5];split at he
 ·cases he
 rename_i c6;rw[if_neg c6];have hd:0≤B.1∧B.1≤100000:=by
  have:¬aU B.1=false:=fun e=>c6 (.inl e);simpa [aU] using this
 have hw:IntKind.i64.wrap (B.1+g)=B.1+g:=aJ (by omega);rw[hw] at he c6 ⊢;exact awn hr.halts f.bill.pay (by omega) (by omega) he
theorem afW (c:City):∀(n:Nat) (d:Int),(nB c n d).2=0→d≤(nB c n d).1
 |0,d,_=>yN _
 |n+1,d,h=>by
  unfold nB at h ⊢;by_cases e:(bP c (d+1)).2=0
  ·rw[if_neg (by simp[e])] at h ⊢;have h1:=afW c n _ h;have h2:=(th e).2.1;omega
  ·rw[if_pos e] at h;exact absurd h e
theorem JF (c:City)(s:Said)(fr:Int)(h:(dh c s fr).1=true)(hf:fr≤never):fr≤(dh c s fr).2:=by
 unfold dh at h ⊢;split
 ·exact hf
 split
 ·rename_i h1 h2;rw[if_neg h1,if_pos h2] at h;cases h
 ·split
  ·exact hf
  ·rename_i h3;have dO:(lO c fr s.cell.n).2=0:=by omega
   show fr≤(lO c fr s.cell.n).1;unfold lO at dO ⊢;split at dO
   ·cases dO
   ·rename_i h4;rw[if_neg h4];exact afW c _ _ dO
variable {v w:DView} {f:File} {x y:Int}
end Rm
namespace Rm
open Go Go.Proofs Cx
theorem agG (f:File)(day:Int)(h1:f.signs.length≤4294967295)(h2:f.acts.length≤4294967295)(h3:f.alters.length≤4294967295)(h4:f.facts.length≤4294967295):ak T 28 [bT f,.int day] (bT (aE f day)):=by
 refine .of_tree rfl (lA 140 (by kernel_rfl)) ayn ?_;simp[WC];obtain⟨m,hm,hS,J2,uy⟩:=yE (fun s:Sign=>decide (s.day≤day)) f.signs;obtain⟨n,hn,hA,PX,PY⟩:=yE (fun s:Act=>decide (s.day≤day)) f.acts;refine aL.forRounds m (fun k=>[.int k]) (fun k=>[]) ?_ (fun k hk=>?_) ?_
 ·simp
 ·have bo:k<f.signs.length:=by omega
  have hw:=bk bo (by omega);have hd:=J2 k bo hk;simp at hd;have dP:¬day<f.signs[k].day:=by omega
  simp[Uh,F2,bo,hw,dP]
 have pS:(f.signs.take m).length=m:=by simp;omega
 have QF:(f.acts.take n).length=n:=by simp;omega
 have PZ:aE f day=⟨f.bill,f.signs.take m,f.alters.filter (ir m),f.acts.take n,f.facts.filter (fO m)⟩:=by
  unfold aE iQ Ca;rw[hS,hA,pS]
 rw[PZ];by_cases cI:m<f.signs.length
 case' pos=>
  have hd:=uy cI;simp at hd;simp[Uh,F2,cI,hd];generalize D.bool true=bb
 case' neg=>
  simp[Uh,F2,cI];generalize D.bool false=bb
 all_goals
  refine aL.forRounds n (fun k=>[.int k]) (fun k=>[]) ?_ (fun k hk=>?_) ?_
  ·simp
  ·have bo:k<f.acts.length:=by omega
   have hw:=bk bo (by omega);have hd:=PX k bo hk;simp at hd;have dP:¬day<f.acts[k].day:=by omega
   simp[Ui,F3,bo,hw,dP]
  by_cases iY:n<f.acts.length
  case' pos=>
   have hd:=PY iY;simp at hd;simp[Ui,F3,iY,hd];generalize D.bool true=bc
  case' neg=>
   simp[Ui,F3,iY];generalize D.bool false=bc
  all_goals
   refine⟨by omega,by omega,by omega,by omega,?_⟩;refine aL.forRounds f.alters.length (fun k=>[.int k]) (fun k=>[ma f.bill (signs (f.signs.take m)) (lK ((f.alters.take k).filter (ir m))) (acts (f.acts.take n)) (.list []),alters ((f.alters.take k).filter (ir m))]) ?_ (fun k hk=>?_) ?_
   ·simp[alters,signs,acts,ma]
    try rfl
   ·have hw:=bk hk (by omega);have ht:=vG (ir m) f.alters hk;rw[ht];have hlen:((f.alters.take k).filter (ir m)).length≤k:=ke (rY _ _) (by simp;omega);generalize (f.alters.take k).filter (ir m)=B at*;by_cases hd:f.alters[k].at_≤(m:Int)
    ·simp[Uj,F4,ir,hk,hw,hd];exact⟨by omega,by simp[alters,ma,abT]<;>rfl⟩
    ·simp[Uj,F4,ir,hk,hw,hd]
   simp[Uj,F4];generalize f.alters.filter (ir m)=B at*;refine aL.forRounds f.facts.length (fun k=>[.int k]) (fun k=>[ma f.bill (signs (f.signs.take m)) (lK B) (acts (f.acts.take n)) (lK ((f.facts.take k).filter (fO m))),facts ((f.facts.take k).filter (fO m))]) ?_ (fun k hk=>?_) ?_
   ·simp[facts]
   ·have hw:=bk hk (by omega);have ht:=vG (fO m) f.facts hk;rw[ht];have hlen:((f.facts.take k).filter (fO m)).length≤k:=ke (rY _ _) (by simp;omega);generalize (f.facts.take k).filter (fO m)=C at*;by_cases bB:0≤f.facts[k].at_
    ·by_cases dy:f.facts[k].at_<(m:Int)
     ·simp[Mz,BQ,fO,ax,hk,hw,bB,dy];exact⟨by omega,by simp[facts,ma,abT]<;>rfl⟩
     ·simp[Mz,BQ,fO,ax,hk,hw,bB,dy]
    ·simp[Mz,BQ,fO,ax,hk,hw,bB]
   simp[Mz,BQ]
   try rfl
end Rm
namespace Rm
open Go Go.Proofs Cx
theorem ato (x i:Nat):x&&& 2^i=if x.testBit i then 2^i else 0:=by
 apply Nat.eq_of_testBit_eq;intro j;rw[Nat.testBit_and,Nat.testBit_two_pow];by_cases h:i=j
 ·subst h;cases x.testBit i<;>simp
 ·cases x.testBit i<;>simp[h]
theorem Oc (n:Int)(i:Nat)(hi:i<3):cX .and .i64 n ((2^i:Nat):Int)=0∨cX .and .i64 n ((2^i:Nat):Int)=((2^i:Nat):Int):=by
 have hp:i=0∨i=1∨i=2:=by omega
 have h2:(BitVec.ofInt 64 ((2^i:Nat):Int)).toNat=2^i:=by
  rcases hp with rfl|rfl|rfl<;>rfl
 have h1:(BitVec.ofInt 64 n&&& BitVec.ofInt 64 ((2^i:Nat):Int)).toNat=if(BitVec.ofInt 64 n).toNat.testBit i then 2^i else 0:=by
  rw[BitVec.toNat_and,h2,ato]
 have h3:cX .and .i64 n ((2^i:Nat):Int)=IntKind.i64.wrap (((BitVec.ofInt 64 n&&& BitVec.ofInt 64 ((2^i:Nat):Int)).toNat:Nat):Int):=rfl;rw[h3,h1];cases(BitVec.ofInt 64 n).toNat.testBit i with
 |false=>left;rfl
 |true=>
  right;rcases hp with rfl|rfl|rfl<;>rfl
theorem amu (n k:Int)(hk:k=1∨k=2∨k=4):decide (cX .and .i64 n k=k)=uv n k:=by
 unfold uv;have h:cX .and .i64 n k=0∨cX .and .i64 n k=k:=by
  rcases hk with rfl|rfl|rfl
  ·exact Oc n 0 (by omega)
  ·exact Oc n 1 (by omega)
  ·exact Oc n 2 (by omega)
 have gE:k≠0:=by omega
 rcases h with h|h<;>rw[h]<;>simp[gE];omega
theorem tI (n:Int):ak T 167 [.int n] (cm ⟨true,n⟩):=by
 refine .of_tree rfl (lA 146 (by kernel_rfl)) ayu ?_;simp[WI]
 try rfl
theorem vp (b:Bool):ak T 168 [.bool b] (cm (eU b)):=by
 refine .of_tree rfl (lA 147 (by kernel_rfl)) ayv ?_;cases b
 ·simp[Nq];refine⟨_,tI 0,?_⟩;simp;rfl
 ·simp[Nq];refine⟨_,tI 1,?_⟩;simp;rfl
theorem Md (n k:Int)(hk:k=1∨k=2∨k=4):ak T 169 [.int n,.int k] (.bool (uv n k)):=by
 rw[←amu n k hk];refine .of_tree rfl (lA 148 (by kernel_rfl)) ayt ?_;simp[WH]
theorem Mc (r:Realm)(c:Int)(hl:r.cities.length≤100000):ak T 138 [aQ r,.int c] (.int (cD r c)):=by
 have hw:IntKind.i64.wrap ((r.cities.length:Int)-1)=(r.cities.length:Int)-1:=aJ (by omega);refine .of_tree rfl (lA 149 (by kernel_rfl)) ax6 ?_;simp[Wm,cD,hw];refine⟨_,cB c 0 _,?_⟩;have he:wi c 0 ((r.cities.length:Int)-1)=ax c r.cities.length:=by
  rw[qx];simp[wi,ax];omega
 rw[he];cases h:ax c r.cities.length
 ·simp[h]
 ·simp[ax] at h;have h1:c.toNat<r.cities.length:=by omega
  simp[h,h1]
def ain (b:Nat→PC):PT:=
 (.call ⟨[],[(7,(.setn o7 (pi 18) 0 (.r 210)))]⟩ [] 215 170 [(ah 19 o5),(pi 4),bW] (.chk (aq o7 (pi 19)) (.ret (.setn o7 (pi 19) 0 (.r 215)))))
def aiy (b:Nat→PC):PT:=
 (.call ⟨[],[(7,(.setn o7 (pi 17) 0 (.r 205)))]⟩ [] 210 170 [(ah 19 o5),(pi 3),bW] (.chk (aq o7 (pi 18)) (ain b)))
def aiG (b:Nat→PC):PT:=
 (.call ⟨[],[(7,(.setn o7 (pi 16) 0 (.r 199)))]⟩ [] 205 170 [(ah 19 o5),(pi 2),(pc o3 19)] (.chk (aq o7 (pi 17)) (aiy b)))
def aiH (b:Nat→PC):PT:=
 (.call ⟨[],[(7,(.setn o7 (pi 15) 0 (.r 193)))]⟩ [] 199 170 [(ah 19 o5),(pi 1),(pc o3 19)] (.chk (aq o7 (pi 16)) (aiG b)))
def aiI (b:Nat→PC):PT:=
 (.call ⟨[(11,(.mx (pc o3 20) (pi 0)))],[(7,(.setn o7 (pi 13) 0 (.r 184)))]⟩ [] 193 170 [(ah 19 o5),(pi 0),(pc o3 19)] (.chk (aq o7 (pi 15)) (aiH b)))
def aiJ (b:Nat→PC):PT:=
 (.call ⟨[],[]⟩ [] 184 168 [(.r 183)] (.chk (aq o7 (pi 13)) (aiI b)))
def aiK (b:Nat→PC):PT:=
 (.call ⟨[],[(7,(.setn o7 (pi 12) 0 (.r 178)))]⟩ [] 183 169 [(pc o6 8),(pi 1)] (aiJ b))
def aiL (b:Nat→PC):PT:=
 (.call ⟨[],[]⟩ [] 178 168 [r9] (.chk (aq o7 (pi 12)) (aiK b)))
def aiM (b:Nat→PC):PT:=
 (.call ⟨[],[]⟩ [] 155 168 [(aC (.r 148) (.r 153))] (.chk (aq o7 (pi 11)) (.brk ⟨[(10,(pi 0)),(9,pF)],[(7,(.setn o7 (pi 11) 0 (.r 155)))]⟩ (acW b) (aiL b))))
def aio (b:Nat→PC):PT:=
 (.call ⟨[],[]⟩ [] 153 138 [(ah 8 o2),(pc o5 10)] (aiM b))
def aip (b:Nat→PC):PT:=
 (.call ⟨[],[(7,(.setn o7 (pi 8) 0 (.r 141)))]⟩ [] 148 138 [(ah 8 o2),(pc o5 9)] (aio b))
def aiq (b:Nat→PC):PT:=
 (.call ⟨[],[(7,(.setn o7 (pi 9) 0 (.r 134)))]⟩ [] 141 168 [(ae (pc o5 2) (pi (-1)))] (.chk (aq o7 (pi 8)) (aip b)))
def air (b:Nat→PC):PT:=
 (.call ⟨[],[]⟩ [] 134 168 [(.r 133)] (.chk (aq o7 (pi 9)) (aiq b)))
def ais (b:Nat→PC):PT:=
 (.call ⟨[],[(7,(.setn o7 (pi 10) 0 TD))]⟩ [] 133 169 [(pc o5 13),(pi 4)] (air b))
def ait (b:Nat→PC):PT:=
 (.call ⟨[],[]⟩ [] 127 168 [agF] (.chk (aq o7 (pi 10)) (ais b)))
def aiu (b:Nat→PC):PT:=
 (.call ⟨[],[(7,(.setn o7 (pi 7) 0 agE))]⟩ [] 126 169 [(pc o5 13),(pi 2)] (ait b))
def aiv (b:Nat→PC):PT:=
 (.call ⟨[],[]⟩ [] 120 168 [agC] (.chk (aq o7 (pi 7)) (aiu b)))
def aiw (b:Nat→PC):PT:=
 (.call ⟨[],[(7,(.setn o7 (pi 14) 0 agB))]⟩ [] 119 169 [(pc o5 13),(pi 1)] (aiv b))
def aix (b:Nat→PC):PT:=
 (.call ⟨[],[(7,(.setn o7 (pi 6) 0 Fu))]⟩ [] 113 168 [(aP r8 (pi 0))] (.chk (aq o7 (pi 14)) (aiw b)))
def aiz (b:Nat→PC):PT:=
 (.call ⟨[(8,(.pick (aC (pc o3 22) (pi (-1))) (aS (pc o6 6) (pc o3 22)) (pi 0)))],[(7,(.setn o7 (pi 5) 0 Mi))]⟩ [] 108 167 [(.pick (aC (pc o3 22) (pi (-1))) (aS (pc o6 6) (pc o3 22)) (pi 0))] (.chk (aq o7 (pi 6)) (aix b)))
def aiA (b:Nat→PC):PT:=
 (.call ⟨[],[(7,(.setn o7 (pi 4) 0 TL))]⟩ [] 96 167 [(pc o3 21)] (.chk (aq o7 (pi 5)) (aiz b)))
def aiB (b:Nat→PC):PT:=
 (.call ⟨[],[(7,(.setn o7 (pi 3) 0 TK))]⟩ [] 91 167 [(pc o6 0)] (.chk (aq o7 (pi 4)) (aiA b)))
def aiC (b:Nat→PC):PT:=
 (.call ⟨[],[(7,(.setn o7 (pi 2) 0 qm))]⟩ [] 86 167 [(pc o5 12)] (.chk (aq o7 (pi 3)) (aiB b)))
def aiD (b:Nat→PC):PT:=
 (.call ⟨[],[(7,(.setn o7 (pi 1) 0 rC))]⟩ [] 80 167 [(pc o5 5)] (.chk (aq o7 (pi 2)) (aiC b)))
def aiE (b:Nat→PC):PT:=
 (.call ⟨[],[(7,(.setn o7 (pi 0) 0 rB))]⟩ [] 73 167 [(pc o5 14)] (.chk (aq o7 (pi 1)) (aiD b)))
def aiF (b:Nat→PC):PT:=
 (.call ⟨[],[(7,(.rep (pi 20) (.con (.agg [(.bool false),(.int 0)])))),(6,(.setc z9 0 (pn (pc (.setc (.con (.agg [(.int 0),(.int 0),(.int 0),(.int 0),(.int 0),(.int 0),(.int 0),(.int 0),(.int 0),(.int 0),(.int 0),(.int 0),(.int 0),(.int 0),(.int 0),(.list []),(.list []),(.list []),(.list [])])) 0 (ah 19 (.mk [r1]))) 15) (pc (.mk [r1]) 19)))),(5,(.setc (.con (.agg [(.int 0),(.int 0),(.int 0),(.int 0),(.int 0),(.int 0),(.int 0),(.int 0),(.int 0),(.int 0),(.int 0),(.int 0),(.int 0),(.int 0),(.int 0),(.list []),(.list []),(.list []),(.list [])])) 0 (ah 19 (.mk [r1])))),(3,(.mk [r1])),(2,(.mk [r0]))]⟩ [] 67 167 [(pc (.setc (.con (.agg [(.int 0),(.int 0),(.int 0),(.int 0),(.int 0),(.int 0),(.int 0),(.int 0),(.int 0),(.int 0),(.int 0),(.int 0),(.int 0),(.int 0),(.int 0),(.list []),(.list []),(.list []),(.list [])])) 0 (ah 19 (.mk [r1]))) 3)] (.chk (aq o7 (pi 0)) (aiE b)))
def aim (b:Nat→PC):PT:=
 (.ite (.pick (.pick (.pick (.pick (.pick (ao (pc (.mk [r1]) 19) (pi 0)) pT (bD (pc (.mk [r1]) 19) (.llen (pc (.setc (.con (.agg [(.int 0),(.int 0),(.int 0),(.int 0),(.int 0),(.int 0),(.int 0),(.int 0),(.int 0),(.int 0),(.int 0),(.int 0),(.int 0),(.int 0),(.int 0),(.list []),(.list []),(.list []),(.list [])])) 0 (ah 19 (.mk [r1]))) 15)))) pT (ao (pc (.mk [r1]) 20) (pi (-1)))) pT (bD (pc (.mk [r1]) 20) (.llen (pc (.setc (.con (.agg [(.int 0),(.int 0),(.int 0),(.int 0),(.int 0),(.int 0),(.int 0),(.int 0),(.int 0),(.int 0),(.int 0),(.int 0),(.int 0),(.int 0),(.int 0),(.list []),(.list []),(.list []),(.list [])])) 0 (ah 19 (.mk [r1]))) 15)))) pT (ao (pc (.mk [r1]) 22) (pi (-1)))) pT (aP (pc (.mk [r1]) 22) (pi 100000))) (.ret pL) (.chk (aq (pc (.setc (.con (.agg [(.int 0),(.int 0),(.int 0),(.int 0),(.int 0),(.int 0),(.int 0),(.int 0),(.int 0),(.int 0),(.int 0),(.int 0),(.int 0),(.int 0),(.int 0),(.list []),(.list []),(.list []),(.list [])])) 0 (ah 19 (.mk [r1]))) 15) (pc (.mk [r1]) 19)) (.ite (.pick (ao (pc (.setc z9 0 (pn (pc (.setc (.con (.agg [(.int 0),(.int 0),(.int 0),(.int 0),(.int 0),(.int 0),(.int 0),(.int 0),(.int 0),(.int 0),(.int 0),(.int 0),(.int 0),(.int 0),(.int 0),(.list []),(.list []),(.list []),(.list [])])) 0 (ah 19 (.mk [r1]))) 15) (pc (.mk [r1]) 19))) 6) (pi 0)) pT (aP (pc (.setc z9 0 (pn (pc (.setc (.con (.agg [(.int 0),(.int 0),(.int 0),(.int 0),(.int 0),(.int 0),(.int 0),(.int 0),(.int 0),(.int 0),(.int 0),(.int 0),(.int 0),(.int 0),(.int 0),(.list []),(.list []),(.list []),(.list [])])) 0 (ah 19 (.mk [r1]))) 15) (pc (.mk [r1]) 19))) 6) (pi 100000))) (.ret pL) (.chk (.an (bD (pi 20) (pi 0)) (aX (pi 20) (pi 4294967296))) (.chk (ae (pi 20) (pi 20)) (aiF b))))))
theorem ayr (b:Nat→PC):WG b=aim b:=rfl
theorem au0 (r:Realm)(hr:r.cities.length≤100000)(c:Case)(h2:c.file.facts.length≤100000)(h3:c.file.alters.length≤100000):ak T 145 [aQ r,eL c] (cells (dC r c)):=by
 refine .of_tree rfl (lA 145 (by kernel_rfl)) ays ?_;rw[ayr];simp[aim];by_cases hb:((((c.sign<0∨(c.file.signs.length:Int)≤c.sign)∨c.holder< -1)∨(c.file.signs.length:Int)≤c.holder)∨c.due< -1)∨100000<c.due
 ·rw[if_pos hb];have hc:kM c=false:=by
   cases e:kM c with
   |false=>rfl
   |true=>
    exfalso;unfold kM iy ax at e;simp only[az,lY,decide_eq_true_eq] at e;split at e<;>omega
  have hv:dC r c=[]:=by unfold dC;rw[hc];simp
  rw[hv];rfl
 rw[if_neg hb];have hc:kM c=true:=by
  unfold kM iy ax;simp only[az,lY,decide_eq_true_eq];split<;>omega
 have hlen:c.sign.toNat<c.file.signs.length:=by omega
 obtain⟨s,dj⟩:∃s:Sign,s=c.file.signs[c.sign.toNat]:=⟨_,rfl⟩
 have gn:c.file.signs.getD c.sign.toNat default=s:=by rw[dj];simp[hlen]
 have hv:dC r c=if ax s.day 100001=true then wP r c s else[]:=by
  unfold dC;rw[gn,hc];simp
 rw[hv];simp[hlen,←dj];refine⟨by omega,?_⟩;by_cases hd:s.day<0∨100000<s.day
 ·rw[if_pos hd,if_neg (by simp[ax];omega)];rfl
 rw[if_neg hd,if_pos (by simp[ax];omega)];have AM:(if c.due=-1 then D.int 0 else D.int (IntKind.i64.wrap (s.day-c.due)))=D.int (u9 s c.due):=by
  unfold u9;by_cases h:c.due=-1
  ·simp[h]
  ·rw[if_neg h,if_neg h,aJ (by omega)]
 simp[aiF];refine⟨_,tI _,?_⟩;simp[aiE,hlen,←dj];refine⟨_,tI _,?_⟩;simp[aiD,hlen,←dj];refine⟨_,tI _,?_⟩;simp[aiC,hlen,←dj];refine⟨_,tI _,?_⟩;simp[aiB,hlen,←dj];refine⟨_,tI _,?_⟩;simp[aiA,hlen,←dj];refine⟨_,tI _,?_⟩;simp[aiz,hlen,←dj,AM];refine⟨_,tI _,?_⟩;simp[aix,hlen,←dj,AM];refine⟨_,vp _,?_⟩;simp[aiw,hlen,←dj];refine⟨_,Md _ _ (by omega),?_⟩;simp[aiv,hlen,←dj];refine⟨_,vp _,?_⟩;simp[aiu,hlen,←dj];refine⟨_,Md _ _ (by omega),?_⟩;simp[ait,hlen,←dj];refine⟨_,vp _,?_⟩;simp[ais,hlen,←dj];refine⟨_,Md _ _ (by omega),?_⟩;simp[air,hlen,←dj];refine⟨_,vp _,?_⟩;simp[aiq,hlen,←dj];refine⟨_,vp _,?_⟩;simp[aip,hlen,←dj];refine⟨_,Mc r _ hr,?_⟩;simp[aio,hlen,←dj];refine⟨_,Mc r _ hr,?_⟩;simp[aiM,hlen,←dj];refine⟨_,vp _,?_⟩;refine aL.forRounds c.file.alters.length (fun k=>[.bool ((List.range k).any fun j=>decide ((c.file.alters.getD j default).at_≤c.sign)),.int k]) (fun _=>[]) ?_ (fun k hk=>?_) ?_
 ·simp
 ·have hw:=bk hk (by omega)
  have e:(List.range (k+1)).any (fun j=>decide ((c.file.alters.getD j default).at_≤c.sign))=((List.range k).any (fun j=>decide ((c.file.alters.getD j default).at_≤c.sign))||decide (c.file.alters[k].at_≤c.sign)):=by
   rw[List.range_succ,YH];simp[hk]
  rw[e];generalize (List.range k).any (fun j=>decide ((c.file.alters.getD j default).at_≤c.sign))=b;cases b<;>simp[ahb,MB,hk,hw]
 have halt:(List.range c.file.alters.length).any (fun j=>decide ((c.file.alters.getD j default).at_≤c.sign))=pv c.file c.sign:=rfl;rw[halt];have hF:=fun k at_=>auX c.file k at_ (by omega);have sN:(if c.holder<0 then D.int 0 else D.int c.holder)=D.int (iy c):=by unfold iy;split<;>rfl
 simp[ahb,MB];simp[aiL,hlen,←dj];refine⟨_,vp _,?_⟩;simp[aiK,hlen,←dj];refine⟨_,Md _ _ (by omega),?_⟩;simp[aiJ,hlen,←dj];refine⟨_,vp _,?_⟩;simp[aiI,hlen,←dj,sN];refine⟨_,hF 0 _,?_⟩;simp[aiH,hlen,←dj,sN];refine⟨_,hF 1 _,?_⟩;simp[aiG,hlen,←dj,sN];refine⟨_,hF 2 _,?_⟩;simp[aiy,hlen,←dj,sN];refine⟨_,hF 3 _,?_⟩;simp[ain,hlen,←dj,sN];refine⟨_,hF 4 _,?_⟩;simp[cells,wP,nJ,nK]
theorem agR (r:Realm)(hr:r.cities.length≤100000)(c:Case)(hf:FewS c.file):ak T 101 [aQ r,eL c] (cells (dC r (aI c))):=by
 have g:=hf.at_ c.day;refine .of_tree rfl (lA 144 (by kernel_rfl)) ayX ?_;simp[W4];refine⟨_,agG c.file c.day (by have:=hf.signs;omega) (by have:=hf.acts;omega) (by have:=hf.alters;omega) (by have:=hf.facts;omega),?_⟩;have hv:=au0 r hr (aI c) (by have:=g.facts;show(aE c.file c.day).facts.length≤_;omega) (by have:=g.alters;show(aE c.file c.day).alters.length≤_;omega);simp;exact hv
theorem avh (s:Said):ak T 94 [iv s] (.int (jb s)):=by
 refine .of_tree rfl (lA 175 (by kernel_rfl)) ay0 ?_;unfold jb;by_cases h:s.err=0
 ·cases h2:s.cell.known<;>simp[Nu,h,h2]
 ·simp[Nu,h]
end Rm
namespace Rm
open Go Go.Proofs Cx
def dS (r:Realm)(forum:Int)(c:Case):List Int:=if dC r (aI c)=[] then[] else fh r forum (aI c)
end Rm
namespace Rm
open Go Go.Proofs Cx
theorem akF {r:Realm}(h:dv r=0)(i:Nat)(hi:i<r.cities.length):mf r r.cities[i]=true:=by
 unfold dv at h;rw[GN] at h;have h1:=h (eM (fc r) 40 (mY r)) (by simp);unfold eM at h1;split at h1
 ·cases h1
 have h2:=As h1 i (by simpa [fc] using hi);have h3:=(At h2).2;unfold mY at h3;simpa [hi] using h3
theorem akL {r:Realm}(h:dv r=0)(i:Nat)(hi:i<r.cities.length):0≤r.cities[i].order∧r.cities[i].order<r.orders.length:=by
 have:=akF h i hi;unfold mf at this;simp only[az] at this;obtain⟨⟨_,⟨⟨_,h2⟩,_⟩⟩,_⟩:=this;simpa [ax] using h2
theorem E4 {r:Realm}(h:dv r=0)(c:Int):cD r c=-1∨(0≤cD r c∧cD r c<r.orders.length):=by
 unfold cD;split
 ·rename_i hc;have mm:0≤c∧c<r.cities.length:=by simpa [ax] using hc
  have hl:c.toNat<r.cities.length:=by omega
  right;have:=akL h c.toNat hl;simpa [hl] using this
 ·exact .inl rfl
end Rm
namespace Rm
open Go Go.Proofs Cx
theorem az1 {q:Int}(h:q<0∨22≤q):(dW q).2=false:=by unfold dW;rw[if_pos h]
theorem az2 {q:Int}(h:¬(q<0∨22≤q)):(dW q).2=true:=by unfold dW;rw[if_neg h];split<;>rfl
theorem acE {r:Realm}{forum q:Int}{c:Case}(h:dS r forum c=[]∨q<0∨22≤q):gR r forum q c=EW:=by
 have e:(dN r forum q c)=(EW,[]):=by
  unfold dN;by_cases h1:dC r (aI c)=[]
  ·rw[if_pos h1]
  rw[if_neg h1];cases h2:(dW q).2
  ·rw[if_pos rfl]
  rw[if_neg (by simp)];rcases h with h|h
  ·unfold dS at h;rw[if_neg h1] at h;rw[if_pos h]
  ·rw[az1 h] at h2;cases h2
 unfold gR;rw[e];rfl
structure Joined (r:Realm) (forum q:Int) (c:Case):Prop where
 vars:(dC r (aI c)).length=20
 sign:0≤c.sign∧c.sign<(aE c.file c.day).signs.length
 who:0≤(cZ (aE c.file c.day) c.sign).who∧(cZ (aE c.file c.day) c.sign).who<r.firms.length
 places:dS r forum c=[forum,cD r (cZ (aE c.file c.day) c.sign).city,cD r c.file.bill.pay,cD r c.file.bill.city,cD r (r.firms.getD (cZ (aE c.file c.day) c.sign).who.toNat default).city]
 path:(cU r forum q (dS r forum c)).1≠[]
 ask:gR r forum q c=if(cU r forum q (dS r forum c)).2=0 then⟨(kh (gX r (ct (cU r forum q (dS r forum c)).1)) q (dC r (aI c))).1,ct (cU r forum q (dS r forum c)).1,(cU r forum q (dS r forum c)).1,(kh (gX r (ct (cU r forum q (dS r forum c)).1)) q (dC r (aI c))).2⟩
  else⟨cN,-1,(cU r forum q (dS r forum c)).1,(cU r forum q (dS r forum c)).2⟩
theorem acM (r:Realm)(q:Int)(l:List Int):∀(n:Nat) (p:List Int),p≠[]→(iK r q l n p).1≠[]
 |0,p,h=>h
 |n+1,p,h=>by
  rw[EM];split
  ·exact h
  split
  ·simp
  split
  ·simp
  ·exact acM r q l n _ (by simp)
theorem aq1 {r:Realm}(hr:Right r)(hc:dv r=0){forum q:Int}{c:Case}(h:dS r forum c≠[])(hq:¬(q<0∨22≤q)):Joined r forum q c:=by
 have hv:dC r (aI c)≠[]:=fun e=>h (by unfold dS;rw[if_pos e]);have eO:dS r forum c=fh r forum (aI c):=by unfold dS;rw[if_neg hv]
 have hp:fh r forum (aI c)≠[]:=by rw[←eO];exact h
 have hb:¬iT r forum (aI c):=fun e=>hp (by unfold fh;rw[if_pos e]);have hn:hasB (dR r forum (aI c)) (-1)=false:=by
  cases e:hasB (dR r forum (aI c)) (-1) with
  |false=>rfl
  |true=>exact absurd (by unfold fh;rw[if_neg hb,if_pos e]) hp
 have ho:fh r forum (aI c)=dR r forum (aI c):=by unfold fh;rw[if_neg hb,hn];simp
 have bU:∀x,x∈dR r forum (aI c)→0≤x∧x<r.orders.length:=by
  intro x hx
  have aA:x≠-1:=fun e=>by
   subst e;have:hasB (dR r forum (aI c)) (-1)=true:=by simpa [hasB] using hx
   rw[hn] at this;cases this
  unfold dR at hx;simp only[cW,NZ,or_false] at hx;unfold iT at hb;rcases hx with rfl|rfl|rfl|rfl|rfl
  ·omega
  all_goals
   rcases E4 hc _ with e|e
   ·exact absurd e aA
   ·exact e
 have Kg:jm r forum q (dR r forum (aI c))=true:=by
  have hf:=bU forum (by simp[dR]);have hl:(dR r forum (aI c)).length=5:=rfl;unfold jm;rw[az];constructor
  ·simp[hl];omega
  ·rw[lu,List.any_eq_false];intro k hk;have bo:=gf.1 hk;have:=bU ((dR r forum (aI c))[k]) (cv bo);simp[E5,bo];omega
 have sP:cU r forum q (dS r forum c)=iK r q (dS r forum c) r.orders.length [forum]:=by
  unfold cU;rw[eO,ho,if_pos ⟨Kg,rfl⟩]
 refine⟨?_,Yn hv,?_,by rw[eO,ho];rfl,by rw[sP];exact acM _ _ _ _ _ (by simp),?_⟩
 ·unfold dC at hv ⊢;split at hv
  ·rename_i hh;rw[if_pos hh];simp[wP,nJ,nK]
  ·exact absurd rfl hv
 ·unfold iT at hb;have e1:(aI c).file=aE c.file c.day:=rfl;have e2:(aI c).sign=c.sign:=rfl;rw[e1,e2] at hb;omega
 ·have e:dN r forum q c=(⟨cN,if(cU r forum q (dS r forum c)).2=0 then ct (cU r forum q (dS r forum c)).1 else-1,(cU r forum q (dS r forum c)).1,(cU r forum q (dS r forum c)).2⟩,dC r (aI c)):=by
   unfold dN;rw[if_neg hv,az2 hq,if_neg (by simp),if_neg hp,eO]
  have uI:(dS r forum c).length≤100000:=by rw[eO,ho];simp[dR]
  have Qu:=KT hr (a:=forum) (q:=q) (l:=dS r forum c) uI;unfold gR;rw[e];generalize cU r forum q (dS r forum c)=L at*;by_cases h0:L.2=0
  ·have:=(Qu h0).2;simp only[h0,if_true];rw[if_neg (by omega)]
  ·simp[h0]
end Rm
namespace Rm
open Go Go.Proofs Cx
theorem ajV (f:File)(day:Int){i:Nat}(hi:i<(aE f day).signs.length):∃h:i<f.signs.length,(aE f day).signs[i]=f.signs[i]:=by
 obtain⟨m,hm,e,_,_⟩:=yE (fun s:Sign=>decide (s.day≤day)) f.signs;have e':(aE f day).signs=f.signs.take m:=e;have h1:i<f.signs.length:=by rw[e',eH] at hi;omega
 refine⟨h1,?_⟩;simp only[e',List.getElem_take]
def aiN (b:Nat→PC):PT:=
 (.call ⟨[],[(8,(.setn o8 (pi 3) 0 Fy))]⟩ [] 79 138 [(ah 8 o3),(pc (pn (pc o3 3) (pc o7 2)) 1)] (.chk (aq o8 (pi 4)) (.brk ⟨[(9,(pi 0))],[(8,(.setn o8 (pi 4) 0 r79))]⟩ (acX b) (.ret o8))))
def aiO (b:Nat→PC):PT:=
 (.call ⟨[],[(8,(.setn o8 (pi 2) 0 tK))]⟩ [] 68 138 [(ah 8 o3),(pc o5 9)] (.chk (aq o8 (pi 3)) (.chk (aq (pc o3 3) (pc o7 2)) (aiN b))))
def aiP (b:Nat→PC):PT:=
 (.call ⟨[],[(8,(.setn o8 (pi 1) 0 tJ))]⟩ [] 60 138 [(ah 8 o3),(pc o5 10)] (.chk (aq o8 (pi 2)) (aiO b)))
def aiQ (b:Nat→PC):PT:=
 (.call ⟨[(8,pN)],[(8,(.setn (.rep (pi 5) (pi 0)) (pi 0) 0 r1)),(7,(.setc z9 0 (pn (pc o5 15) (pc o5 19))))]⟩ [] 52 138 [(ah 8 o3),(pc (.setc z9 0 (pn (pc o5 15) (pc o5 19))) 7)] (.chk (aq o8 (pi 1)) (aiP b)))
def aiR (b:Nat→PC):PT:=
 (.call ⟨[(6,pL)],[(5,(.mk [r2])),(3,(.mk [r0]))]⟩ [] 12 101 [(ah 8 (.mk [r0])),(ah 24 (.mk [r2]))] (.ite (.pick (.pick (ae (.llen bQ) (pi 0)) pT (ao r1 (pi 0))) pT (bD r1 (.llen (pc o3 4)))) (.ret pL) (.chk (aq (pc o5 15) (pc o5 19)) (.ite (.pick (ao (pc (.setc z9 0 (pn (pc o5 15) (pc o5 19))) 2) (pi 0)) pT (bD (pc (.setc z9 0 (pn (pc o5 15) (pc o5 19))) 2) (.llen (pc o3 3)))) (.ret pL) (.chk (.an (bD (pi 5) (pi 0)) (aX (pi 5) (pi 4294967296))) (.chk (ae (pi 5) (pi 5)) (.chk (aq (.rep (pi 5) (pi 0)) (pi 0)) (aiQ b))))))))
theorem ay1 (b:Nat→PC):W7 b=aiR b:=rfl
theorem avi (r:Realm)(hc:dv r=0)(hr:r.cities.length≤100000)(forum:Int)(c:Case)(hf:FewS c.file):ak T 97 [aQ r,.int forum,eL c] (ints (dS r forum c)):=by
 have hC:=agR r hr c hf;refine .of_tree rfl (lA 143 (by kernel_rfl)) ay2 ?_;rw[ay1];simp[aiR];unfold dS;by_cases hv:dC r (aI c)=[]
 ·rw[if_pos hv];rw[hv] at hC;refine⟨_,hC,?_⟩;simp;rfl
 rw[if_neg hv];refine⟨_,hC,?_⟩;have gn:=Yn hv;have A8:c.sign.toNat<(aE c.file c.day).signs.length:=by
  have:(aI c).file.signs=(aE c.file c.day).signs:=rfl;have e2:(aI c).sign=c.sign:=rfl;rw[this,e2] at gn;omega
 obtain⟨Eu,dj⟩:=ajV c.file c.day A8;have h0:0≤c.sign:=gn.1;simp[hv];have hp:fh r forum (aI c)=if iT r forum (aI c) then[] else if hasB (dR r forum (aI c)) (-1)=true then[] else dR r forum (aI c):=rfl;have AE:iT r forum (aI c)↔((c.file.signs[c.sign.toNat].who<0∨(r.firms.length:Int)≤c.file.signs[c.sign.toNat].who)∨forum<0)∨(r.orders.length:Int)≤forum:=by
  have e:cZ (aI c).file (aI c).sign=c.file.signs[c.sign.toNat]:=by
   show(aE c.file c.day).signs.getD c.sign.toNat default=_;rw[←dj];simp[A8]
  unfold iT;rw[e];constructor
  ·rintro(h|h|h|h)<;>simp[h]
  ·rintro(((h|h)|h)|h)<;>simp[h]
 by_cases hfo:forum<0∨(r.orders.length:Int)≤forum
 ·rw[if_pos hfo,hp,if_pos (AE.2 (by omega))];rfl
 rw[if_neg hfo];obtain⟨sg,ot⟩:∃sg:Sign,sg=c.file.signs[c.sign.toNat]:=⟨_,rfl⟩
 rw[←ot] at AE;simp[Eu,←ot];refine⟨by omega,?_⟩;by_cases hw:sg.who<0∨(r.firms.length:Int)≤sg.who
 ·rw[if_pos hw,hp,if_pos (AE.2 (.inl (.inl hw)))];rfl
 rw[if_neg hw];have dZ:¬iT r forum (aI c):=fun e=>by have:=AE.1 e;omega
 have xu:sg.who.toNat<r.firms.length:=by omega
 have ho:dR r forum (aI c)=[forum,cD r sg.city,cD r c.file.bill.pay,cD r c.file.bill.city,cD r r.firms[sg.who.toNat].city]:=by
  have e:cZ (aI c).file (aI c).sign=sg:=by
   show(aE c.file c.day).signs.getD c.sign.toNat default=_;rw[ot,←dj];simp[A8]
  unfold dR;rw[e];simp[xu];exact⟨rfl,rfl⟩
 rw[hp,if_neg dZ,ho];have jq:∀x:Int,ak T 138 [aQ r,.int x] (.int (cD r x)):=fun x=>Mc r x hr;simp[aiQ,Eu,←ot];refine⟨_,jq _,?_⟩;simp[aiP,Eu,←ot];refine⟨_,jq _,?_⟩;simp[aiO,Eu,←ot];refine⟨_,jq _,?_⟩;simp[aiN,Eu,←ot,xu];refine⟨by omega,_,jq _,?_⟩;have o1:=E4 hc sg.city;have o2:=E4 hc c.file.bill.pay;have o3:=E4 hc c.file.bill.city;have o4:=E4 hc r.firms[sg.who.toNat].city;generalize cD r sg.city=x1 at*;generalize cD r c.file.bill.pay=x2 at*;generalize cD r c.file.bill.city=x3 at*;generalize cD r r.firms[sg.who.toNat].city=x4 at*;have hR:∀x,(x=-1∨0≤x)→¬0≤x→x=-1:=fun x h1 h2=>by omega
 have aA:¬forum<0:=by omega
 obtain⟨R,oc⟩:∃R,R=ints (if hasB [forum,x1,x2,x3,x4] (-1)=true then[] else[forum,x1,x2,x3,x4]):=⟨_,rfl⟩
 rw[←oc];have aqM:(x1=-1∨x2=-1∨x3=-1∨x4=-1)→R=.list []:=by
  intro h;have:hasB [forum,x1,x2,x3,x4] (-1)=true:=by
   simp[hasB];omega
  rw[oc,this];rfl
 have eA:¬(x1=-1∨x2=-1∨x3=-1∨x4=-1)→R=ints [forum,x1,x2,x3,x4]:=by
  intro h;have:hasB [forum,x1,x2,x3,x4] (-1)=false:=by
   cases e:hasB [forum,x1,x2,x3,x4] (-1) with
   |false=>rfl
   |true=>
    exfalso;simp[hasB] at e;omega
  rw[oc,this];rfl
 clear oc;refine aL.scan 5 (fun k=>0≤[forum,x1,x2,x3,x4].getD k 0) (fun k=>[.list [],.int k]) (fun _=>[]) ?_ (fun k hk hj ho=>?_) (fun k hk hj ho=>?_) (fun hj=>?_)
 ·simp
 ·have h5:k=0∨k=1∨k=2∨k=3∨k=4:=by omega
  rcases h5 with rfl|rfl|rfl|rfl|rfl<;>simp at ho<;>simp[Us,Gd,Int.not_lt.2 ho,show IntKind.i64.wrap 2=2 by decide,show IntKind.i64.wrap 3=3 by decide,show IntKind.i64.wrap 4=4 by decide,show IntKind.i64.wrap 5=5 by decide,show IntKind.i64.wrap 1=1 by decide]
 ·have h5:k=0∨k=1∨k=2∨k=3∨k=4:=by omega
  rcases h5 with rfl|rfl|rfl|rfl|rfl<;>simp at ho<;>simp[Us,Gd,ho]
  ·omega
  all_goals exact(aqM (by omega)).symm
 ·have a1:=hj 1 (by omega);have a2:=hj 2 (by omega);have a3:=hj 3 (by omega);have a4:=hj 4 (by omega);simp at a1 a2 a3 a4;rw[eA (by omega)];simp[Us,Gd]
  try rfl
end Rm
namespace Rm
open Go Go.Proofs Cx
def N6 (r:Realm):Prop:=∀o,o∈r.orders→o.choices.Pairwise fun a b=>a.ask≠b.ask
def pw (q:Int)(ch:Choice):Bool:=decide (ch.ask=q)
theorem aag {q:Int}:∀{l:List Choice},l.Pairwise (fun a b=>a.ask≠b.ask)→l.find? (lN q)=(l.find? (pw q)).bind fun ch=>if ch.by_=0 then none else some ch
 |[],_=>rfl
 |ch::l,h=>by
  rw[N0] at h;by_cases h1:ch.ask=q
  ·have hn:∀x,x∈l→x.ask≠q:=fun x hx e=>h.1 x hx (h1.trans e.symm);have Ef:l.find? (lN q)=none:=by
        rw[nS];intro x hx;simp[lN,hn x hx]
   by_cases h2:ch.by_=0
   ·simp[NV,lN,pw,h1,h2];have:=Ef;unfold lN at this;simpa using this
   ·simp[NV,lN,pw,h1,h2]
  ·have ih:=aag (q:=q) h.2;simp[NV,lN,pw,h1];unfold lN pw at ih;exact ih
theorem agP (r:Realm)(l:List Int)(hr:r.orders.length≤100000)(hl:l.length=5)(hx:∀x,x∈l→0≤x∧x<r.orders.length):ak T 139 [aQ r,ints l] (.bool true):=by
 have fT:IntKind.i64.wrap ((r.orders.length:Int)-1)=(r.orders.length:Int)-1:=aJ (by omega);refine .of_tree rfl (lA 153 (by kernel_rfl)) ayU ?_;simp[W0];refine aL.forRounds l.length (fun k=>[.bool false,.int k]) (fun _=>[]) ?_ (fun k hk=>?_) ?_
 ·simp
 ·have hw:=bk hk (by omega);have bU:=hx _ (cv hk);have Re:wi l[k] 0 ((r.orders.length:Int)-1)=true:=by simp[wi];omega
  simp[ahc,MC,hk,hw,fT];refine⟨_,cB _ _ _,?_⟩;simp[Re,hw]
 ·simp[ahc,MC,hl]
def Pl (o:Order)(q:Int):Choice:=(o.choices.find? (pw q)).getD ⟨q,0,false⟩
theorem avb (o:Order)(q:Int)(hl:o.choices.length≤100000):ak T 163 [gT o,.int q] (sy (Pl o q)):=by
 refine .of_tree rfl (lA 155 (by kernel_rfl)) ayR ?_;simp[WX];unfold Pl;refine aL.scan o.choices.length (fun k=>pw q (o.choices.getD k default)=false) (fun k=>[.int k]) (fun _=>[.agg [.int 0,.int 0,.bool false]]) ?_ (fun k hk hj aB=>?_) (fun k hk hj aB=>?_) (fun hj=>?_)
 ·simp
 ·have hw:=bk hk (by omega);have hn:¬o.choices[k].ask=q:=by simpa [pw,hk] using aB
  simp[Up,Gb,hk,hw,hn]
 ·have dE:=pH hk (by simpa [hk] using aB) (fun j br=>by have:=hj j br;simpa [show j<o.choices.length by omega] using this);have hc:o.choices[k].ask=q:=by simpa [pw,hk] using aB
  rw[dE];simp[Up,Gb,hk,hc];subst hc;rfl
 ·have dE:=qO (l:=o.choices) (p:=pw q) (fun j br=>by have:=hj j br;simpa [br] using this);rw[dE];simp[Up,Gb]
  try rfl
theorem avd (r:Realm)(kP:vT r)(dJ:N6 r)(hr:r.orders.length≤100000)(a q:Int)(l:List Int)(hf:jm r a q l=true)(hq:0≤q∧q<22):
 ak T 140 [aQ r,.int a,.int q,ints l] (.tup [.int (fb r a q l).1,.bool (fb r a q l).2]):=by
 obtain⟨ha,uI,hx,_⟩:=Ar hf;have fT:IntKind.i64.wrap ((r.orders.length:Int)-1)=(r.orders.length:Int)-1:=aJ (by omega);have m8:a.toNat<r.orders.length:=by omega
 obtain⟨bA,kR⟩:=kP _ (cv m8);have hpw:=dJ _ (cv m8);have xk:gX r a=r.orders[a.toNat]:=by simp[gX,m8]
 have AK:=aag (q:=q) hpw;have Rd:wi a 0 ((r.orders.length:Int)-1)=true:=by simp[wi];omega
 have EE:wi q 0 21=true:=by simp[wi];omega
 refine .of_tree rfl (lA 154 (by kernel_rfl)) ayT ?_;simp[WZ,fT];refine⟨_,agP r l hr uI hx,?_⟩;simp;refine⟨_,cB _ _ _,?_⟩;simp[Rd];refine⟨_,cB _ _ _,?_⟩;simp[EE,m8];refine⟨ha,_,avb _ q bA,?_⟩;unfold fb;rw[xk,AK];unfold Pl;cases dE:r.orders[a.toNat].choices.find? (pw q) with
 |none=>simp
 |some ch=>
  have hb:=kR _ (pg dE);have sI:ch.by_.toNat<l.length:=by omega
  by_cases h0:ch.by_=0
  ·simp[h0]
  ·simp[h0,sI];omega
theorem avU {l:List Int}{a b:Int}(h:rising l a b=true):l.Pairwise (·<·):=by
 unfold rising at h;rw[we] at h
 have step:∀i (h1:i+1<l.length),l[i]'(by omega)<l[i+1]:=by
  intro i h1;have:=h (i+1) h1;have hi:i<l.length:=by omega
  simp[nI,h1,hi] at this;exact this.2
 rw[YQ];intro i j hi hj pQ;obtain⟨d,rfl⟩:∃d,j=i+1+d:=⟨j-i-1,by omega⟩
 clear pQ
 induction d with
 |zero=>exact step i hj
 |succ d ih=>exact Int.lt_trans (ih (by omega)) (step (i+1+d) hj)
theorem atI {r:Realm}(h:dv r=0):N6 r:=by
 intro o ho;obtain⟨k,hk,rfl⟩:=gP ho;have h1:=ZG h k hk;unfold oC at h1;simp only[az] at h1;have h2:=avU h1.2.1;unfold wg at h2;rw[List.pairwise_map] at h2;exact h2.imp fun h=>by omega
def qs (N:Nat)(p:List Int):D:=.list ((List.range N).map fun(i:Nat)=>D.bool (hasB p (i:Int)))
theorem awf {N:Nat}{p:List Int}{k:Nat}(hk:k<N):(qs N p).l[k]?.getD D.none=D.bool (hasB p (k:Int)):=by
 show((List.range N).map fun(i:Nat)=>D.bool (hasB p (i:Int)))[k]?.getD D.none=_;simp[hk]
theorem awg (N:Nat)(p:List Int):(qs N p).l.length=N:=by
 show((List.range N).map fun(i:Nat)=>D.bool (hasB p (i:Int))).length=N;simp
theorem ahD {N:Nat}{p:List Int}{x:Int}(h0:0≤x):D.list ((qs N p).l.set x.toNat (D.bool true))=qs N (p++[x]):=by
 show D.list (((List.range N).map fun(i:Nat)=>D.bool (hasB p (i:Int))).set x.toNat (D.bool true))=_;unfold qs
 congr 1
 apply NS
 ·simp
 ·intro i h1 h2;simp at h2;rw[List.getElem_set];by_cases h:x.toNat=i
  ·have hx:x=(i:Int):=by omega
   simp[h,hx,hasB]
  ·have hx:¬(i:Int)=x:=by omega
   have e:hasB (p++[x]) (i:Int)=hasB p (i:Int):=by
        simp[hasB,hx];intro e;exact absurd e.symm hx
   simp[h,e]
end Rm
namespace Rm
open Go Go.Proofs Cx
@[simp] theorem aHh (x y:Bool):tT (D.bool x) 0 (D.bool y)=D.bool y:=_root_.id rfl
theorem avc (r:Realm)(kP:vT r)(dJ:N6 r)(hn:r.orders.length≤100000)(a q:Int)(l:List Int)(hf:jm r a q l=true)(hq:0≤q∧q<22)(apl:l.getD 0 0=a):
 ak T 99 [aQ r,.int a,.int q,ints l] (.tup [ints (cU r a q l).1,.int (cU r a q l).2]):=by
 obtain⟨ha,uI,hx,pJ⟩:=Ar hf;have h0:0<l.length:=by omega
 have uJ:l[0]=a:=by simpa [h0] using apl
 have hE:cU r a q l=iK r q l r.orders.length [a]:=by unfold cU;rw[if_pos ⟨hf,by simp[h0,uJ]⟩]
 have fT:IntKind.i64.wrap ((r.orders.length:Int)-1)=(r.orders.length:Int)-1:=aJ (by omega);have Rd:wi a 0 ((r.orders.length:Int)-1)=true:=by simp[wi];omega
 have EE:wi q 0 21=true:=by simp[wi];omega
 have m8:a.toNat<r.orders.length:=by omega
 rw[hE];refine .of_tree rfl (lA 152 (by kernel_rfl)) ayS ?_;simp[WY,fT];refine⟨_,agP r l hn uI hx,?_⟩;simp;refine⟨_,cB _ _ _,?_⟩;simp[Rd];refine⟨_,cB _ _ _,?_⟩;simp[EE,h0,uJ];refine⟨by omega,ha,?_⟩;refine aL.forLoop (α:=Nat×List Int) (fun s vr vo=>(∃x,vr=[.list [],.int 0,x,.int ((r.orders.length-s.1:Nat):Int)])∧vo=[qs r.orders.length s.2,ints s.2]∧s.2.Nodup∧(∀x,x∈s.2→0≤x∧x<(r.orders.length:Int))∧s.2≠[]∧s.1+s.2.length=r.orders.length+1∧iK r q l s.1 s.2=iK r q l r.orders.length [a]) (fun s=>s.1) (r.orders.length,[a]) ?_ ?_
 ·have QW:D.list ((List.replicate r.orders.length (D.bool false)).set a.toNat (D.bool true))=qs r.orders.length [a]:=by
   have h1:(qs r.orders.length [])=D.list (List.replicate r.orders.length (D.bool false)):=by
        unfold qs
        congr 1
        apply NS
        ·simp
        ·intro i h1 h2;simp[hasB]
   have h2:=ahD (N:=r.orders.length) (p:=[]) (x:=a) ha.1;rw[h1] at h2;exact h2
  simp[ints,m8,QW];exact ha
 ·rintro⟨n,p⟩ vr vo ⟨⟨x0,rfl⟩,rfl,bX,bU,aA,hlen,sP⟩;simp only at*;have eO:p.length≤r.orders.length:=LN _ p bX bU;have AZ:0<p.length:=vX.mpr aA;obtain⟨m,rfl⟩:∃m,n=m+1:=⟨n-1,by omega⟩
  have ar:p.length-1<p.length:=by omega
  have gF:ct p=p[p.length-1]:=by simp[ct,ar]
  have ng:=bU _ (cv ar);rw[←gF] at ng;have wV:=avd r kP dJ hn (ct p) q l (pJ _ ng.1 ng.2) hq;obtain⟨_,fq,fu⟩:=NQ r kP (ct p) q l (by omega) (pJ _ ng.1 ng.2);have xe:((p.length:Int)-1).toNat=p.length-1:=by omega
  have sX:IntKind.i64.wrap ((p.length:Int)-1)=(p.length:Int)-1:=aJ (by omega);rw[←sP,EM];obtain⟨L,hL⟩:∃L,L=fb r (ct p) q l:=⟨_,rfl⟩
  rw[←hL] at wV fq fu ⊢;obtain⟨to,whole⟩:=L;simp only at wV fq fu;have mz:to.toNat<r.orders.length:=by omega
  have xk:gX r to=r.orders[to.toNat]:=by simp[gX,mz]
  simp only[xk];have hk:((r.orders.length-(m+1):Nat):Int)≤r.orders.length:=by omega
  have hkw:IntKind.i64.wrap (((r.orders.length-(m+1):Nat):Int)+1)=((r.orders.length-m:Nat):Int):=by rw[aJ (by omega)];omega
  simp[avA,Uq,sX,xe,ar,←gF,ints,hk];refine⟨by omega,_,wV,by omega,?_⟩;by_cases h1:to=ct p
  ·simp[h1]
  simp[h1];refine⟨by omega,?_⟩;cases whole
  ·simp
  have gn:=awf (N:=r.orders.length) (p:=p) mz;have Ew:((to.toNat:Nat):Int)=to:=by omega
  rw[Ew] at gn
  have dj:∀h:to.toNat<(qs r.orders.length p).l.length,(qs r.orders.length p).l[to.toNat]=D.bool (hasB p to):=fun h=>by
   rw[cl h] at gn;exact gn
  simp[awg,dj,mz,fq,fu,ahD];cases h2:hasB p to
  ·have ed:to∉p:=fun hm=>by
        have:hasB p to=true:=by simp[hasB,hm]
        rw[h2] at this;cases this
   simp[h2];refine⟨m,by omega,hkw,p++[to],⟨rfl,by simp⟩,?_,?_,by simp,by simp;omega,rfl⟩
   ·exact Cs.mpr ⟨bX,by simp,fun x hx y hy=>by simp at hy;subst hy;exact fun e=>ed (e▸hx)⟩
   ·intro x hx;rcases da.mp hx with h|h
    ·exact bU x h
    ·simp at h;subst h;exact⟨fq,fu⟩
  ·cases h3:r.orders[to.toNat].accepts<;>simp[h2,h3,mz]
end Rm
namespace Rm
open Go Go.Proofs Cx
theorem RA (L:Nat)(t:Tm):1≤bu L t:=ve L t
theorem ahM:∀(L:Nat) (t:Tm) (n:Int),0≤n→n≤60→(bu L t≤n→fZ L t n=n-bu L t)∧(n<bu L t→fZ L t n<0)
 |0,t,n,h0,h1=>by
  refine⟨fun h=>?_,fun _=>by simp[fZ]⟩;simp[bu] at h;omega
 |L+1,t,n,h0,h1=>by
  have key:∀(l:List Tm) (m:Int),1≤m→m≤60→
    (cV (bu L) l m≤n→l.foldl (fun m a=>if 0≤m then fZ L a m else m) (n-m)=n-cV (bu L) l m)∧(n<cV (bu L) l m→l.foldl (fun m a=>if 0≤m then fZ L a m else m) (n-m)<0):=by
   intro l
   induction l with
   |nil=>
    intro m xf qY;simp only[cV,List.foldl_nil];exact⟨fun _=>trivial,fun h=>by omega⟩
   |cons a l ih=>
    intro m xf qY;have hp:=RA L a;simp only[Ha,cV];by_cases hn:0≤n-m
    ·rw[if_pos hn];obtain⟨s1,s2⟩:=ahM L a (n-m) hn (by omega);by_cases hle:bu L a≤n-m
     ·rw[s1 hle];have e:n-m-bu L a=n-(m+bu L a):=by omega
      rw[e,if_neg (by omega)];exact ih (m+bu L a) (by omega) (by omega)
     ·have abN:=s2 (by omega);rw[M5 L l _ abN];have D6:n<(if 60<m+bu L a then m+bu L a else cV (bu L) l (m+bu L a)):=by
        split
        ·omega
        ·have:m+bu L a≤cV (bu L) l (m+bu L a):=by
             have gen:∀(l:List Tm) (x:Int),x≤cV (bu L) l x:=by
               intro l
               induction l with
               |nil=>intro x;simp[cV]
               |cons b l oy=>
                intro x;have hb:=RA L b;simp only[cV];split
                ·omega
                ·have:=oy (x+bu L b);omega
             exact gen l _
         omega
      exact⟨fun h=>by omega,fun _=>abN⟩
    ·rw[if_neg hn,M5 L l _ (by omega)];have gen:∀(l:List Tm) (x:Int),x≤cV (bu L) l x:=by
       intro l
       induction l with
       |nil=>intro x;simp[cV]
       |cons b l oy=>
        intro x;have hb:=RA L b;simp only[cV];split
        ·omega
        ·have:=oy (x+bu L b);omega
     have D6:n<(if 60<m+bu L a then m+bu L a else cV (bu L) l (m+bu L a)):=by
       have:=gen l (m+bu L a);split<;>omega
     exact⟨fun h=>by omega,fun _=>by omega⟩
  show(cV (bu L) t.args 1≤n→_)∧(n<cV (bu L) t.args 1→_)
  exact key t.args 1 (by omega) (by omega)
theorem ahL (t:Tm):fZ 8 t 60<0↔60<bu 8 t:=by
 obtain⟨h1,h2⟩:=ahM 8 t 60 (by omega) (by omega);constructor
 ·intro h;refine Cj fun hc=>?_;have:=h1 (by omega);omega
 ·exact h2
def eW (op:Int):Int:=if op=0∨op=1∨op=2 then 0 else if op=3 then 1 else if op=6 then 3 else 2
theorem au4 (op:Int):ak T 209 [.int op] (.int (eW op)):=by
 refine .of_tree rfl (lA 161 (by kernel_rfl)) ayD ?_;unfold eW;by_cases h0:op=0
 ·simp[vK,h0]
 by_cases h1:op=1
 ·simp[vK,h0,h1]
 by_cases h2:op=2
 ·simp[vK,h0,h1,h2]
 by_cases h3:op=3
 ·simp[vK,h0,h1,h2,h3]
 by_cases h6:op=6
 ·simp[vK,h0,h1,h2,h3,h6]
 ·simp[vK,h0,h1,h2,h3,h6]
theorem agJ (v:Int):ak T 212 [.int v] (.tup [.int (j8 v).1,.bool (j8 v).2]):=by
 refine .of_tree rfl (lA 163 (by kernel_rfl)) ayC ?_;unfold j8;by_cases h1:v<0
 ·simp[B9,h1]
 by_cases h2:19<v
 ·simp[B9,h1,h2,show 20≤v by omega]
 by_cases h3:v<7
 ·simp[B9,h1,h2,h3,show ¬20≤v by omega,show v≤6 by omega]
 ·simp[B9,h1,h2,h3,show ¬20≤v by omega,show ¬v≤6 by omega]
theorem au6 (t:Tm)(ha:t.args.length=0)(ho:t.op=0∨t.op=1∨t.op=2):ak T 210 [di t] (.tup [.int (rh t).1,.int (rh t).2]):=by
 have hv:=agJ t.n;refine .of_tree rfl (lA 162 (by kernel_rfl)) ayG ?_;unfold rh;rw[if_neg (by omega)];by_cases h0:t.op=0
 ·have hc:lC t.n≠t.n↔t.n< -1099511627776∨1099511627776<t.n:=by unfold lC;omega
  by_cases h:t.n< -1099511627776∨1099511627776<t.n
  ·rw[if_pos h0,if_pos (hc.2 h)];simp[vL,h0,h]
  ·rw[if_pos h0,if_neg (fun e=>h (hc.1 e))];simp[vL,h0,h]
 by_cases h1:t.op=1
 ·by_cases h:t.n=0
  ·simp[vL,h0,h1,h]
  by_cases h':t.n=1
  ·simp[vL,h0,h1,h']
  ·have:t.n<0∨1<t.n:=by omega
   simp[vL,h0,h1,h,h',this]
 ·simp[vL,h0,h1];refine⟨_,hv,?_⟩;cases h2:(j8 t.n).2<;>simp[h2]
def Bi (op:Int)(l:List Int):Int×Bool:=
 if op=3 then(1,decide (l.getD 0 0=1)) else if op=4∨op=5 then(1,decide (l.getD 0 0=1)&&decide (l.getD 1 0=1))
 else if op=6 then(l.getD 1 0,decide (l.getD 0 0=1)&&decide (l.getD 1 0=l.getD 2 0)) else if op=7 then(1,decide (l.getD 0 0=0)&&decide (l.getD 1 0=0))
 else if op=8 then(1,decide (l.getD 0 0=l.getD 1 0)) else(0,decide (l.getD 0 0=0)&&decide (l.getD 1 0=0))
theorem au5 (op:Int)(l:List Int)(h1:1≤l.length)(h2:op≠3→2≤l.length)(h3:op=6→3≤l.length):ak T 211 [.int op,ints l] (.tup [.int (Bi op l).1,.bool (Bi op l).2]):=by
 have g0:0<l.length:=by omega
 refine .of_tree rfl (lA 164 (by kernel_rfl)) ayF ?_;unfold Bi;by_cases o3:op=3
 ·simp[tW,o3,g0]
 have g1:1<l.length:=by have:=h2 o3;omega
 have dI:(1:Int)<l.length:=by omega
 by_cases o4:op=4
 ·by_cases e0:l[0]=1<;>simp[tW,o4,g0,g1,dI,e0]
 by_cases o5:op=5
 ·by_cases e0:l[0]=1<;>simp[tW,o5,g0,g1,dI,e0]
 by_cases o6:op=6
 ·have g2:2<l.length:=by have:=h3 o6;omega
  have kN:(2:Int)<l.length:=by omega
  by_cases e0:l[0]=1<;>simp[tW,o6,g0,g1,g2,dI,kN,e0]
 by_cases o7:op=7
 ·by_cases e0:l[0]=0<;>simp[tW,o7,g0,g1,dI,e0]
 by_cases o8:op=8
 ·simp[tW,o8,g0,g1,dI]
 ·by_cases e0:l[0]=0<;>simp[tW,o3,o4,o5,o6,o7,o8,g0,g1,dI,e0]
theorem ara {α:Type}{l:List α}(h:l.length=1):∃a,l=[a]:=by
 match l,h with
 |[a],_=>exact⟨a,rfl⟩
theorem arb {α:Type}{l:List α}(h:l.length=2):∃a b,l=[a,b]:=by
 match l,h with
 |[a,b],_=>exact⟨a,b,rfl⟩
theorem arc {α:Type}{l:List α}(h:l.length=3):∃a b c,l=[a,b,c]:=by
 match l,h with
 |[a,b,c],_=>exact⟨a,b,c,rfl⟩
theorem atv (t:Tm)(ks:List Int)(hk:ks.length=t.args.length)(dx:∀x,x∈ks→x=0∨x=1):rk t ks=if t.op<0∨13<t.op then(0,1) else if(ks.length:Int)≠eW t.op∨(0<eW t.op∧t.n≠0) then(0,2) else
 if eW t.op=0 then rh t else if(Bi t.op ks).2=false then(0,11) else((Bi t.op ks).1,0):=by
 unfold rk;by_cases h0:t.op<0∨13<t.op
 ·rw[if_pos h0,if_pos h0]
 rw[if_neg h0,if_neg h0];by_cases hl:t.op=0∨t.op=1∨t.op=2
 ·have ha:eW t.op=0:=by unfold eW;rw[if_pos hl]
  rw[if_pos hl,ha];by_cases hz:ks.length=0
  ·rw[if_neg (by omega),if_pos rfl]
  ·rw[if_pos (by omega)];unfold rh;rw[if_pos (by omega)]
 rw[if_neg hl];have hr:3≤t.op∧t.op≤13:=by omega
 have J6:eW t.op=((dB t.op).1.length:Int):=by
  unfold eW dB;rw[if_neg hl];by_cases o3:t.op=3
  ·simp[o3]
  by_cases o6:t.op=6
  ·simp[o6]
  rw[if_neg o3,if_neg o6];split
  ·omega
  split
  ·rfl
  split
  ·rfl
  split<;>rfl
 by_cases hc:ks.length≠(dB t.op).1.length∨t.n≠0
 ·rw[if_pos hc,if_pos];rw[J6];have:1≤(dB t.op).1.length:=by
   unfold dB
   repeat' split
   all_goals simp
  omega
 have hB:¬((ks.length:Int)≠eW t.op∨(0<eW t.op∧t.n≠0)):=by rw[J6];omega
 rw[if_neg hc,if_neg hB];clear hB;have aA:eW t.op≠0:=by
  unfold eW;rw[if_neg hl]
  repeat' split
  all_goals omega
 rw[if_neg aA];have hlen:ks.length=(dB t.op).1.length:=by omega
 by_cases o3:t.op=3
 ·simp[dB,o3] at hlen;obtain⟨a,rfl⟩:=ara hlen;rw[o3];rcases dx a (by simp) with rfl|rfl<;>rfl
 have two:ks.length=2→∃a b,ks=[a,b]∧(a=0∨a=1)∧(b=0∨b=1):=fun h=>by
  obtain⟨a,b,rfl⟩:=arb h;exact⟨a,b,rfl,dx a (by simp),dx b (by simp)⟩
 by_cases o6:t.op=6
 ·simp[dB,o6] at hlen;obtain⟨a,b,c,rfl⟩:=arc hlen;rcases dx a (by simp) with rfl|rfl<;>rcases dx b (by simp) with rfl|rfl<;>rcases dx c (by simp) with rfl|rfl<;>rw[o6]<;>rfl
 have abV:t.op=4∨t.op=5∨t.op=7∨t.op=8∨t.op=9∨t.op=10∨t.op=11∨t.op=12∨t.op=13:=by omega
 have AT:ks.length=2:=by
  rw[hlen];rcases abV with h|h|h|h|h|h|h|h|h<;>rw[h]<;>rfl
 obtain⟨a,b,rfl,ha,hb⟩:=two AT;rcases abV with h|h|h|h|h|h|h|h|h<;>rw[h]<;>rcases ha with rfl|rfl<;>rcases hb with rfl|rfl<;>rfl
end Rm
namespace Rm
open Go Go.Proofs Cx
theorem ajK {op:Int}(h:eW op=0):op=0∨op=1∨op=2:=by
 unfold eW at h;split at h
 ·assumption
 ·exfalso
  repeat' split at h
  all_goals omega
theorem TG:∀(L:Nat) (t:Tm),t.OK→bu L t≤60→ak T 190 [di t] (.tup [.int (bC L t).1,.int (bC L t).2])
 |0,t,ht,hm=>by simp[bu] at hm
 |L+1,t,ht,hm=>by
  refine .of_tree rfl (lA 160 (by kernel_rfl)) ayK ?_;obtain⟨hl,hp⟩:=EU hm;simp[WQ];refine nL t.args.length (fun k=>(bC L (t.args.getD k default)).2) (fun k=>[.int 0,.int 0,.none,.int k]) (fun k=>[ints ((t.args.map fun a=>(bC L a).1).take k)]) ?_ (fun k hk ho=>?_) (fun k hk ho hb=>?_) (fun hj=>?_)
  ·simp[ints]
  ·have hw:=bk hk (by omega);have cJ:=cv hk;have fp:=TG L t.args[k] (ht.arg cJ) (hp _ cJ);have D5:(t.args.map fun a=>(bC L a).1)[k]'(by simpa using hk)=(bC L t.args[k]).1:=by simp
   have Q6:(t.args.map fun a=>(bC L a).1).take (k+1)=(t.args.map fun a=>(bC L a).1).take k++[(bC L t.args[k]).1]:=by
    rw[jO (by simpa using hk),D5]
   have hlen:((t.args.map fun a=>(bC L a).1).take k).length=k:=by simp;omega
   rw[Q6];generalize (t.args.map fun a=>(bC L a).1).take k=A at*;simp[hk] at ho;rw[ho] at fp;generalize (bC L t.args[k]).1=kd at*;simp[Um,F8,hk];refine⟨_,fp,?_⟩;simp[hlen,hk,hw,ints];omega
  ·have cJ:=cv hk;have fp:=TG L t.args[k] (ht.arg cJ) (hp _ cJ);have hf:bC (L+1) t=(0,(bC L (t.args.getD k default)).2):=by
    rw[Dh,hb,if_pos ho]
   rw[hf];simp[hk] at ho ⊢;simp[Um,F8,hk];refine⟨_,fp,?_⟩;simp[ho]
  ·have hf:bC (L+1) t=rk t (t.args.map fun a=>(bC L a).1):=by
    rw[Dh,hj];simp
   have dx:∀x,x∈(t.args.map fun a=>(bC L a).1)→x=0∨x=1:=by
    intro x hx;obtain⟨a,ha,rfl⟩:=dH.1 hx;obtain⟨k,hk,rfl⟩:=gP ha;have hz:(bC L t.args[k]).2=0:=by
     have:=(JN.1 hj) k hk;simpa [hk] using this
    cases L with
    |zero=>have:=hp _ ha;simp[bu] at this
    |succ L=>exact(Di (L:=L) (t:=t.args[k]) (k:=(bC (L+1) t.args[k]).1) (by rw[←hz])).2
   rw[hf,atv t _ (by simp) dx];have sR:(t.args.map fun a=>(bC L a).1).length=t.args.length:=by simp
   have e0:(t.args.map fun a=>(bC L a).1).take t.args.length=t.args.map fun a=>(bC L a).1:=by rw[←sR,qB]
   rw[e0];generalize (t.args.map fun a=>(bC L a).1)=ks at*;simp[Um,F8];by_cases h0:t.op<0∨13<t.op
   ·have dY:t.op<0∨14≤t.op:=by omega
    simp[h0,dY]
   have dY:¬(t.op<0∨14≤t.op):=by omega
   simp[h0,dY];refine⟨_,au4 t.op,?_⟩;by_cases h1:(ks.length:Int)≠eW t.op∨(0<eW t.op∧t.n≠0)
   ·rw[if_pos h1];have cu:¬(ks.length:Int)=eW t.op∨(0<eW t.op∧¬t.n=0):=h1;simp[cu]
   rw[if_neg h1];have cu:¬(¬(ks.length:Int)=eW t.op∨(0<eW t.op∧¬t.n=0)):=h1;simp[cu];by_cases h2:eW t.op=0
   ·have dp:=ajK h2;simp[h2];refine⟨_,au6 t (by omega) dp,?_⟩;simp
   have dp:¬(t.op=0∨t.op=1∨t.op=2):=by
    intro h;apply h2;unfold eW;rw[if_pos h]
   have bI:1≤ks.length:=by
    have:1≤eW t.op:=by
     unfold eW;rw[if_neg dp]
     repeat' split
     all_goals omega
    omega
   simp[h2];refine⟨_,au5 t.op ks bI (fun h3=>?_) (fun h6=>?_),?_⟩
   ·have:2≤eW t.op:=by
     unfold eW;rw[if_neg dp,if_neg h3];split<;>omega
    omega
   ·have:eW t.op=3:=by rw[h6];rfl
    omega
   ·cases h3:(Bi t.op ks).2<;>simp[h3]
theorem agH (t:Tm)(ht:t.OK):ak T 164 [di t] (.tup [.int (jR t).1,.int (jR t).2]):=by
 refine .of_tree rfl (lA 159 (by kernel_rfl)) ayw ?_;simp[WJ,jR];refine⟨_,TF 8 t 60 ht (by omega) (by omega) (by omega),?_⟩;by_cases h:60<bu 8 t
 ·have:=(ahL t).2 h;simp[h,this]
 have hn:¬fZ 8 t 60<0:=fun e=>h ((ahL t).1 e);simp[h,hn];refine⟨_,TG 8 t ht (by omega),?_⟩;simp
end Rm
namespace Rm
open Go Go.Proofs Cx
theorem TE (n:Int):ak T 213 [.int n] (.int (lC n)):=by
 refine .of_tree rfl (lA 170 (by kernel_rfl)) ayx ?_;unfold lC;by_cases h1:n< -1099511627776
 ·simp[Nr];split<;>split<;>simp<;>omega
 ·simp[Nr];split<;>split<;>simp<;>omega
theorem agM (b:Bool):ak T 214 [.bool b] (cm (eU b)):=by
 refine .of_tree rfl (lA 173 (by kernel_rfl)) ayJ ?_;cases b<;>simp[WO]<;>rfl
theorem au3 (v:Int)(cs:List Cell)(hv:0≤v):ak T 191 [.int v,cells cs] (cm (j7 cs v)):=by
 obtain⟨k,rfl⟩:=qy hv;refine .of_tree rfl (lA 169 (by kernel_rfl)) ayB ?_;simp[WM,j7,cellAt];by_cases h1:cs.length≤k
 ·have PV:(cs.length:Int)≤k:=by omega
  simp[h1,PV]
 have cu:k<cs.length:=by omega
 have PV:¬(cs.length:Int)≤k:=by omega
 simp[h1,cu,PV];cases h2:cs[k].known
 ·simp[h2]
 simp[h2];refine⟨_,agJ _,?_⟩;rcases aiV k with h3|h3
 ·simp[h3];refine⟨_,TE _,?_⟩;simp;rfl
 ·simp[h3];by_cases h4:cs[k].n=0
  ·simp[h4];rfl
  ·simp[h4];rfl
theorem agL (a b:Cell)(alone:Int)(h:alone=0∨alone=1):ak T 192 [cm a,cm b,.int alone] (cm (if(a.known=true∧a.n=alone)∨(b.known=true∧b.n=alone) then⟨true,alone⟩ else if a.known=true∧b.known=true then⟨true,1-alone⟩ else cN)):=by
 have hw:IntKind.i64.wrap (1-alone)=1-alone:=aJ (by omega);refine .of_tree rfl (lA 171 (by kernel_rfl)) ayH ?_;obtain⟨ka,na⟩:=a;obtain⟨kb,nb⟩:=b;by_cases e1:na=alone<;>by_cases e2:nb=alone<;>cases ka<;>cases kb<;>simp[WN,e1,e2,hw]<;>rfl
theorem au2 (a b:Int)(ha:-1099511627776≤a∧a≤1099511627776)(hb:-1099511627776≤b∧b≤1099511627776):ak T 215 [.int a,.int b] (.int (qf a b)):=by
 refine .of_tree rfl (lA 174 (by kernel_rfl)) ayA ?_;by_cases h0:a=0∨b=0
 ·have hz:qf a b=0:=by
   unfold qf mF;rcases h0 with rfl|rfl<;>simp
  rw[hz];simp[Ns,h0]
 obtain⟨x,hx⟩:∃x,x=(if a< -a then-a else a):=⟨_,rfl⟩
 obtain⟨y,hy⟩:∃y,y=(if b< -b then-b else b):=⟨_,rfl⟩
 have kV:x=(a.natAbs:Int):=by rw[hx];split<;>omega
 have KM:y=(b.natAbs:Int):=by rw[hy];split<;>omega
 have nm:1≤x∧x≤1099511627776:=by omega
 have hy1:1≤y∧y≤1099511627776:=by omega
 have wa:IntKind.i64.wrap (0-a)=-a:=by rw[aJ (by omega)];omega
 have wb:IntKind.i64.wrap (0-b)=-b:=by rw[aJ (by omega)];omega
 have wa':IntKind.i64.wrap (-a)=-a:=aJ (by omega);have wb':IntKind.i64.wrap (-b)=-b:=aJ (by omega);simp[Ns,h0,wa,wb,wa',wb',←hx,←hy];refine⟨by omega,?_⟩;have hq:Int.tdiv 1099511627776 y=1099511627776/y:=vU (by omega);have A1:0≤(1099511627776:Int)/y:=Int.ediv_nonneg (by omega) (by omega);have hq1:(1099511627776:Int)/y≤1099511627776:=Int.ediv_le_self _ (by omega);have EE:IntKind.i64.wrap (Int.tdiv 1099511627776 y)=1099511627776/y:=by rw[hq];exact aJ (by omega)
 have ar:(1099511627776:Int)/y<x↔1099511627776<x*y:=Int.ediv_lt_iff_lt_mul (by omega);obtain⟨m,hm⟩:∃m:Nat,m=a.natAbs*b.natAbs:=⟨_,rfl⟩
 have hmx:(m:Int)=x*y:=by rw[hm,kV,KM];exact Int.natCast_mul _ _
 have hp:qf a b=if(a<0↔b<0) then mF m else-mF m:=by
  unfold qf;rw[←hm];by_cases c1:a<0<;>by_cases c2:b<0<;>simp[c1,c2]
 have hpn:mF m=if 1099511627776<x*y then 1099511627776 else x*y:=by
  unfold mF;rw[←hmx];split<;>split<;>omega
 rw[hp,hpn,EE];by_cases hc:1099511627776<x*y
 ·have mm:=ar.2 hc;rw[if_pos hc,if_pos mm,if_pos mm];split<;>rfl
 ·have mm:¬(1099511627776:Int)/y<x:=fun e=>hc (ar.1 e);rw[if_neg hc,if_neg mm,if_neg mm];have AZ:0≤x*y:=by rw[←hmx];omega
  split
  ·exact aJ (by omega)
  ·rw[aJ (n:=-x) (by omega),Int.neg_mul];exact aJ (by omega)
theorem au7 (op a b:Int)(ha:9≤op→-1099511627776≤a∧a≤1099511627776)(hb:9≤op→-1099511627776≤b∧b≤1099511627776)(ho:7≤op):
 ak T 193 [.int op,.int a,.int b] (cm (if op=7 then eU (decide (a<b)) else if op=8 then eU (decide (a=b)) else⟨true,sm op a b⟩)):=by
 refine .of_tree rfl (lA 172 (by kernel_rfl)) ayI ?_;unfold sm;by_cases h7:op=7
 ·simp[tX,h7];refine⟨_,agM _,?_⟩;simp
  try rfl
 by_cases h8:op=8
 ·simp[tX,h8];refine⟨_,agM _,?_⟩;simp
  try rfl
 have a1:=ha (by omega);have b1:=hb (by omega);have w1:IntKind.i64.wrap (a+b)=a+b:=aJ (by omega);have w2:IntKind.i64.wrap (a-b)=a-b:=aJ (by omega);by_cases h9:op=9
 ·simp[tX,h9,w1];refine⟨_,TE _,?_⟩;simp
  try rfl
 by_cases lD:op=10
 ·simp[tX,lD,w2];refine⟨_,TE _,?_⟩;simp
  try rfl
 by_cases oa:op=11
 ·simp[tX,oa];refine⟨_,au2 a b a1 b1,?_⟩;simp
  try rfl
 by_cases mj:op=12
 ·simp[tX,mj];have e:(if b<a then D.int b else D.int a)=D.int (min a b):=by
   split
   ·rw[NN (by omega)]
   ·rw[NM (by omega)]
  rw[e];rfl
 ·simp[tX,h7,h8,h9,lD,oa,mj];have e:(if a<b then D.int b else D.int a)=D.int (max a b):=by
   split
   ·rw[YE (by omega)]
   ·rw[NL (by omega)]
  rw[e];rfl
end Rm
namespace Rm
open Go Go.Proofs Cx
theorem agK:∀(L:Nat) (cs:List Cell) (t:Tm) (k:Int),t.OK→bu L t≤60→bC L t=(k,0)→ak T 166 [di t,cells cs] (cm (bm L cs t))
 |0,cs,t,k,ht,hm,hc=>by simp[bu] at hm
 |L+1,cs,t,k,ht,hm,hc=>by
  refine .of_tree rfl (lA 168 (by kernel_rfl)) ayE ?_;obtain⟨hl,hp⟩:=EU hm;obtain⟨ha,_⟩:=JA hc;obtain⟨hn,ape⟩:=Di hc;have fp:∀a,a∈t.args→ak T 166 [di a,cells cs] (cm (bm L cs a)):=fun a cI=>agK L cs a (bC L a).1 (ht.arg cI) (hp a cI) (by rw[←ha a cI]);have kq:∀a,a∈t.args→qD (bC L a).1 (bm L cs a):=fun a cI=>PD cs (show bC L a=((bC L a).1,0) by rw[←ha a cI]);by_cases dx:t.op=0∨t.op=1
  ·have e1:bm (L+1) cs t=⟨true,t.n⟩:=by rw[wN,if_pos dx]
   rw[e1];rcases dx with h|h<;>simp[GZ,h]<;>rfl
  have o0:t.op≠0:=fun h=>dx (.inl h);have o1:t.op≠1:=fun h=>dx (.inr h);by_cases o2:t.op=2
  ·have hv:0≤t.n:=by
    cases hn with
    |var h0 ha hn=>exact hn.1
    |_=>omega
   have e1:bm (L+1) cs t=j7 cs t.n:=by rw[wN,if_neg dx,if_pos o2]
   rw[e1];simp[GZ,o2];refine⟨_,au3 t.n cs hv,?_⟩;simp
   try rfl
  have e1:bm (L+1) cs t=if t.op=6∧(bq (t.args.map (bm L cs)) 0).known=true then bq (t.args.map (bm L cs)) (2-(bq (t.args.map (bm L cs)) 0).n).toNat else ej t.op (t.args.map (bm L cs)):=by
   rw[wN,if_neg dx,if_neg o2]
  rw[e1];simp[GZ,o0,o1,o2];refine aL.forRounds t.args.length (fun k=>[.none,.int k]) (fun k=>[cells ((t.args.map (bm L cs)).take k)]) ?_ (fun k hk=>?_) ?_
  ·simp[cells]
  ·have hw:=bk hk (by omega);have cJ:=cv hk;have hr:=fp _ cJ;have D5:(t.args.map (bm L cs))[k]'(by simpa using hk)=bm L cs t.args[k]:=by simp
   have Q6:(t.args.map (bm L cs)).take (k+1)=(t.args.map (bm L cs)).take k++[bm L cs t.args[k]]:=by
    rw[jO (by simpa using hk),D5]
   have hlen:((t.args.map (bm L cs)).take k).length=k:=by simp;omega
   rw[Q6];generalize (t.args.map (bm L cs)).take k=A at*;generalize bm L cs t.args[k]=c at*;simp[tO,qn,hk];refine⟨_,hr,?_⟩;simp[hlen,hk,hw,cells];omega
  ·have lA:(t.args.map (bm L cs)).length=t.args.length:=by simp
   have e0:(t.args.map (bm L cs)).take t.args.length=t.args.map (bm L cs):=by rw[←lA,qB]
   rw[e0];have val:∀(k:Int) (c:Cell),qD k c→c=cN∨c.known=true∧(k=1→c.n=0∨c.n=1)∧(k=0→-1099511627776≤c.n∧c.n≤1099511627776):=by
    intro k c hr;cases e:c.known with
    |false=>exact .inl (hr.1 e)
    |true=>exact .inr ⟨rfl,hr.2 e⟩
   by_cases h7:7≤t.op
   ·obtain⟨k',hk,h13,h9⟩:∃k',t.args.map (fun a=>(bC L a).1)=[k',k']∧t.op≤13∧(9≤t.op→k'=0):=by
     cases hn with
     |less o hk=>exact⟨0,hk,by omega,fun _=>rfl⟩
     |equal k o hk=>exact⟨k,hk,by omega,fun _=>by omega⟩
     |num o hk=>exact⟨0,hk,by omega,fun _=>rfl⟩
     |log h0 hk=>omega
     |_=>omega
    obtain⟨a,b,ix,ea,eb⟩:=vc hk;have pR:t.args.length=2:=by rw[ix];rfl
    have ra:=kq a (by simp[ix]);rw[ea] at ra;have rb:=kq b (by simp[ix]);rw[eb] at rb;rw[ix];simp only[jN,Cr,mS,qA];generalize bm L cs a=A at*;generalize bm L cs b=B at*;have o3:¬t.op=3:=by omega
    have o4:¬t.op=4:=by omega
    have o5:¬t.op=5:=by omega
    have o6:¬t.op=6:=by omega
    have ec:ej t.op [A,B]=if A.known=false∨B.known=false then cN else if t.op=7 then eU (decide (A.n<B.n)) else if t.op=8 then eU (decide (A.n=B.n)) else⟨true,sm t.op A.n B.n⟩:=by
     unfold ej;rw[if_neg o3,if_neg (by omega),if_neg o6];have:¬(t.op=4∨t.op=5):=by omega
     rw[if_neg this];rfl
    rw[if_neg (by omega),ec];cases e1:A.known<;>cases e2:B.known<;>simp[tO,qn,pR,o3,o4,o5,o6,cells,e1,e2]
    ·have b1:9≤t.op→-1099511627776≤A.n∧A.n≤1099511627776:=fun h=>(ra.2 e1).2 (h9 h);have b2:9≤t.op→-1099511627776≤B.n∧B.n≤1099511627776:=fun h=>(rb.2 e2).2 (h9 h);refine⟨_,au7 t.op A.n B.n b1 b2 h7,?_⟩;simp
     try rfl
   cases hn with
   |int h0 ha hn=>omega
   |bool h0 ha hn=>omega
   |var h0 ha hn=>omega
   |not o3 hk=>
    obtain⟨a,ix,e⟩:=ac2 hk;have pR:t.args.length=1:=by rw[ix];rfl
    have ra:=kq a (by simp[ix]);rw[e] at ra;rw[ix];simp only[jN,Cr,mS,qA];generalize bm L cs a=A at*;rcases val _ _ ra with rfl|⟨h1,h2,_⟩
    ·simp[tO,qn,pR,o3,ej,cells,bq,cN]
    ·obtain⟨ka,na⟩:=A;simp at h1;subst h1;rcases h2 rfl with h|h<;>simp at h<;>subst h<;>simp[tO,qn,pR,o3,ej,cells,bq]<;>rfl
   |log Bp hk=>
    obtain⟨a,b,ix,ea,eb⟩:=vc hk;have pR:t.args.length=2:=by rw[ix];rfl
    have ra:=kq a (by simp[ix]);rw[ea] at ra;have rb:=kq b (by simp[ix]);rw[eb] at rb;rw[ix];simp only[jN,Cr,mS,qA];generalize bm L cs a=A at*;generalize bm L cs b=B at*;have key:∀al:Int,(al=0∨al=1)→t.op=4+al→(if(A.known=true∧A.n=al)∨(B.known=true∧B.n=al) then(⟨true,al⟩:Cell) else if A.known=true∧B.known=true then⟨true,1-al⟩ else cN)=ej t.op [A,B]:=by
     intro al pJ dp;rw[dp];have v3:∀c:Cell,qD 1 c→c=cN∨c=⟨true,0⟩∨c=⟨true,1⟩:=by
        intro c hr;rcases val _ _ hr with h|⟨h,h2,_⟩
        ·exact .inl h
        ·rcases h2 rfl with h3|h3
         ·exact .inr (.inl ((Hv _ _).2 ⟨h,h3⟩))
         ·exact .inr (.inr ((Hv _ _).2 ⟨h,h3⟩))
     rcases v3 _ ra with rfl|rfl|rfl<;>rcases v3 _ rb with rfl|rfl|rfl<;>rcases pJ with rfl|rfl<;>rfl
    rcases Bp with o|o
    ·rw[if_neg (by omega),←key 0 (.inl rfl) o];simp[tO,qn,pR,o,cells];refine⟨_,agL A B 0 (.inl rfl),?_⟩;simp
     try rfl
    ·rw[if_neg (by omega),←key 1 (.inr rfl) o];simp[tO,qn,pR,o,cells];refine⟨_,agL A B 1 (.inr rfl),?_⟩;simp
     try rfl
   |ite k o6 hk=>
    obtain⟨a,b,c,ix,ea,eb,ec⟩:=KX hk;have pR:t.args.length=3:=by rw[ix];rfl
    have ra:=kq a (by simp[ix]);rw[ea] at ra;have w2:IntKind.i64.wrap 2=2:=aJ (by omega);rw[ix];simp only[jN,Cr,mS,qA];generalize bm L cs a=A at*;generalize bm L cs b=B at*;generalize bm L cs c=C at*;rcases val _ _ ra with rfl|⟨h1,h2,_⟩
    ·by_cases g:B.known=true∧B=C
     ·have gg:=g.2;have gk:=g.1;subst gg;simp[tO,qn,pR,o6,ej,cells,bq,cN,gk];obtain⟨kb,nb⟩:=B;simp at gk;subst gk;rfl
     ·have g':¬(B.known=true∧C.known=true∧B.n=C.n):=fun h=>g ⟨h.1,(Hv B C).2 ⟨by rw[h.1,h.2.1],h.2.2⟩⟩;rw[if_neg (by simp[bq,cN])];unfold ej;rw[if_neg (by omega),if_neg (by omega),if_pos o6];simp only[bq,bh];simp;rw[if_neg g];cases e1:B.known<;>cases e2:C.known<;>simp[tO,qn,pR,o6,cells,cN,e1,e2];have:¬B.n=C.n:=fun h=>g' ⟨e1,e2,h⟩;simp[this]
    ·obtain⟨ka,na⟩:=A;simp at h1;subst h1;rcases h2 rfl with h|h<;>simp at h<;>subst h<;>simp[tO,qn,pR,w2,o6,ej,cells,bq]<;>rfl
   |less o hk=>omega
   |equal k o hk=>omega
   |num o hk=>omega
theorem au1 (t:Tm)(cs:List Cell)(ht:t.OK):ak T 142 [di t,cells cs] (cm (pE cs t)):=by
 refine .of_tree rfl (lA 167 (by kernel_rfl)) ayy ?_;simp[WK,pE];refine⟨_,agH t ht,?_⟩;by_cases h:(jR t).2=0
 ·obtain⟨h1,h2⟩:=ZE h;simp[h];refine⟨_,agK 8 cs t _ ht h1 h2,?_⟩;simp
  try rfl
 ·simp[h]
  try rfl
end Rm
namespace Rm
open Go Go.Proofs Cx
theorem TH (ask:Int):ak T 98 [.int ask] (.bool (decide (0≤ask∧ask<22))):=by
 refine .of_tree rfl (lA 151 (by kernel_rfl)) ayN ?_;by_cases h:0≤ask<;>by_cases h2:ask<22<;>simp[WT,h,h2]
theorem agx (ask:Int)(h:0≤ask∧ask<22):ak T 144 [.int ask] (.bool (!hasB qd ask)):=by
 refine .of_tree rfl (lA 166 (by kernel_rfl)) ax3 ?_;have hb:hasB qd ask=true↔ask=6∨ask=7∨ask=10∨ask=12∨ask=13∨ask=14∨ask=15∨ask=16∨ask=20∨ask=21:=by
  simp[hasB,qd];omega
 by_cases hm:ask=6∨ask=7∨ask=10∨ask=12∨ask=13∨ask=14∨ask=15∨ask=16∨ask=20∨ask=21
 ·rw[hb.2 hm];rcases hm with h|h|h|h|h|h|h|h|h|h<;>subst h<;>simp[No]
 ·have hf:hasB qd ask=false:=by
   cases e:hasB qd ask
   ·rfl
   ·exact absurd (hb.1 e) hm
  rw[hf];simp only[not_or] at hm;obtain⟨a1,a2,a3,a4,a5,a6,a7,a8,a9,gy⟩:=hm;simp[No,a1,a2,a3,a4,a5,a6,a7,a8,a9,gy];have hw:=cB ask 0 21;have Re:wi ask 0 21=true:=by simp[wi];omega
  rw[Re] at hw;exact hw
theorem au9 (ask:Int):ak T 165 [.int ask] (.tup [.int (dW ask).1,.bool (dW ask).2]):=by
 refine .of_tree rfl (lA 165 (by kernel_rfl)) ayP ?_;simp[WV,dW];refine⟨_,TH ask,?_⟩;by_cases h:0≤ask∧ask<22
 ·have h1:¬(ask<0∨22≤ask):=by omega
  simp[h,h1];refine⟨_,agx ask h,?_⟩;cases e:hasB qd ask<;>simp[e]
 ·have h1:ask<0∨22≤ask:=by omega
  simp[h,h1]
theorem agO (o:Order)(ask:Int)(hl:o.rules.length≤4294967296):ak T 143 [gT o,.int ask] (.int (lM o.rules.length (lT o ask))):=by
 refine .of_tree rfl (lA 158 (by kernel_rfl)) ayO ?_;simp[WU];refine .scan o.rules.length (fun k=>lT o ask k=false) (fun k=>[.int 0,.int k]) (fun _=>[]) ?_ (fun k hk hj ho=>?_) (fun k hk hj ho=>?_) (fun hj=>?_)
 ·simp
 ·have hw:=bk hk hl;simp[lT,hk] at ho;simp[Uo,Ga,hk,hw,ho]
 ·have he:=KP hk (by simpa using ho) hj;simp[lT,hk] at ho;simp[Uo,Ga,hk,he,ho]
 ·have he:=KO hj;simp[Uo,Ga,he]
theorem ava (o:Order)(ask:Int)(ho:o.OK)(hl:o.rules.length≤4294967296):ak T 141 [gT o,.int ask] (.int (findF o ask).2):=by
 refine .of_tree rfl (lA 157 (by kernel_rfl)) ayQ ?_;simp[WW,findF];refine⟨_,TH ask,?_⟩;have ht:(dW ask).2=decide (0≤ask∧ask<22):=by
  unfold dW;by_cases h:ask<0∨22≤ask
  ·rw[if_pos h];have:¬(0≤ask∧ask<22):=by omega
   simp[this]
  ·rw[if_neg h];have:0≤ask∧ask<22:=by omega
   split<;>simp[this]
 by_cases h:0≤ask∧ask<22
 ·simp[h,ht];refine⟨_,agO o ask hl,?_⟩;rcases xB o.rules.length (lT o ask) with⟨h1,h2⟩|⟨m,hm,h1,h2,h3⟩
  ·rw[h1];simp
  ·rw[h1];have pV:¬((m:Int)<0):=by omega
   have Ex:o.rules[m].term.OK:=MX ho hm;simp[hm,vC,pV];refine⟨_,agH _ Ex,_,au9 ask,?_⟩;by_cases h4:(jR o.rules[m].term).2=0<;>by_cases h5:(jR o.rules[m].term).1=(dW ask).1<;>simp[h4,h5]
 ·simp[h,ht]
theorem au8 (o:Order)(ask:Int)(cs:List Cell)(ho:o.OK)(hl:o.rules.length≤4294967296):ak T 100 [gT o,.int ask,cells cs] (.tup [cm (kh o ask cs).1,.int (kh o ask cs).2]):=by
 refine .of_tree rfl (lA 156 (by kernel_rfl)) ayL ?_;simp[WR];refine⟨_,ava o ask ho hl,?_⟩;by_cases h:(findF o ask).2=0
 ·have hq:(dW ask).2=true:=by
   unfold findF at h;cases e:(dW ask).2
   ·rw[if_pos e] at h;cases h
   ·rfl
  have hr:0≤ask∧ask<22:=by
   unfold dW at hq;split at hq
   ·cases hq
   ·omega
  have hix:∃m:Nat,m<o.rules.length∧lM o.rules.length (lT o ask)=m∧(findF o ask).1=vC o m:=by
   unfold findF at h ⊢;rw[if_neg (by rw[hq];decide)] at h ⊢;split at h
   ·cases h
   rename_i h1;rw[if_neg h1];split at h
   ·cases h
   rename_i h2;rw[if_neg h2];rcases xB o.rules.length (lT o ask) with⟨g1,g2⟩|⟨m,hm,g1,g2,g3⟩
   ·exact absurd (by rw[g1];decide) h1
   ·exact⟨m,hm,g1,by rw[g1]⟩
  obtain⟨m,hm,g1,g2⟩:=hix;have Ex:o.rules[m].term.OK:=MX ho hm;have kN:(findF o ask).1=o.rules[m].term:=by rw[g2];simp[vC,hm]
  simp[h,kh,kN];refine⟨_,agO o ask hl,?_⟩;rw[g1];simp[hm];refine⟨_,au1 _ cs Ex,?_⟩;generalize pE cs o.rules[m].term=c;have lI:=agx ask hr;have bt:(dW ask).1=0↔hasB qd ask=true:=by
   unfold dW;rw[if_neg (by omega)];split
   ·rename_i e;simp[e]
   ·rename_i e;simp[e]
  obtain⟨kn,n⟩:=c;cases hb:hasB qd ask
  ·have eu:¬(dW ask).1=0:=fun e=>by rw[bt.1 e] at hb;cases hb
   rw[hb] at lI;cases kn<;>simp[eu]
   all_goals first|rfl|(refine⟨_,lI,?_⟩;rfl)|(refine⟨_,lI,?_⟩;simp;done)|(refine⟨_,lI,?_⟩;simp;rfl)
  ·have eu:=bt.2 hb;rw[hb] at lI;cases kn
   ·simp[eu]
    first|rfl|(refine⟨_,lI,?_⟩;rfl)|(refine⟨_,lI,?_⟩;simp;done)|(refine⟨_,lI,?_⟩;simp;rfl)
   ·by_cases h2:n<0
    ·have:min (max n 0) 20000=0:=by omega
     simp[eu,h2,this]
     first|rfl|(refine⟨_,lI,?_⟩;rfl)|(refine⟨_,lI,?_⟩;simp;done)|(refine⟨_,lI,?_⟩;simp;rfl)
    ·by_cases h3:20000<n
     ·have:min (max n 0) 20000=20000:=by omega
      simp[eu,h2,h3,this]
      first|rfl|(refine⟨_,lI,?_⟩;rfl)|(refine⟨_,lI,?_⟩;simp;done)|(refine⟨_,lI,?_⟩;simp;rfl)
     ·have:min (max n 0) 20000=n:=by omega
      simp[eu,h2,h3,this];exact⟨⟨_,lI⟩,rfl⟩
 ·simp[h,kh]
  try rfl
end Rm
namespace Rm
open Go Go.Proofs Cx
def bV (y m d:Int):Int:=if m<3 then 365*(y-1)+(y-1)/4-(y-1)/100+(y-1)/400+(153*(m+9)+2)/5+d-1-730425 else 365*y+y/4-y/100+y/400+(153*(m-3)+2)/5+d-1-730425
theorem EY (y m d:Int)(hy:1≤y∧y≤10000)(hm:1≤m∧m≤12)(hd:-1000≤d∧d≤1000):tu y m d=bV y m d:=by
 have w:∀x:Int,-1000000000≤x→x≤1000000000→IntKind.i64.wrap x=x:=fun x a b=>aJ (by omega);have t:∀x y:Int,0≤x→x.tdiv y=x/y:=fun x y hx=>vU hx;have h:ak T 207 [.int y,.int m,.int d] (.int (bV y m d)):=by
  refine .of_tree rfl Og Vv ?_;unfold bV;by_cases h3:m<3
  ·simp[B8,h3];rw[w (y-1) (by omega) (by omega),w (m+12) (by omega) (by omega)];rw[w (m+12-3) (by omega) (by omega),w (365*(y-1)) (by omega) (by omega),w (153*(m+12-3)) (by omega) (by omega)];rw[w (153*(m+12-3)+2) (by omega) (by omega),t (y-1) 4 (by omega),t (y-1) 100 (by omega),t (y-1) 400 (by omega),t _ 5 (by omega)];rw[w ((y-1)/4) (by omega) (by omega),w ((y-1)/100) (by omega) (by omega),w ((y-1)/400) (by omega) (by omega),w ((153*(m+12-3)+2)/5) (by omega) (by omega)];rw[w (365*(y-1)+(y-1)/4) (by omega) (by omega),w (365*(y-1)+(y-1)/4-(y-1)/100) (by omega) (by omega),w (365*(y-1)+(y-1)/4-(y-1)/100+(y-1)/400) (by omega) (by omega)];rw[w (365*(y-1)+(y-1)/4-(y-1)/100+(y-1)/400+(153*(m+12-3)+2)/5) (by omega) (by omega),w (365*(y-1)+(y-1)/4-(y-1)/100+(y-1)/400+(153*(m+12-3)+2)/5+d) (by omega) (by omega),w (365*(y-1)+(y-1)/4-(y-1)/100+(y-1)/400+(153*(m+12-3)+2)/5+d-1) (by omega) (by omega),w _ (by omega) (by omega)];omega
  ·simp[B8,h3];rw[w (m-3) (by omega) (by omega),w (365*y) (by omega) (by omega),w (153*(m-3)) (by omega) (by omega)];rw[w (153*(m-3)+2) (by omega) (by omega),t y 4 (by omega),t y 100 (by omega),t y 400 (by omega),t _ 5 (by omega)];rw[w (y/4) (by omega) (by omega),w (y/100) (by omega) (by omega),w (y/400) (by omega) (by omega),w ((153*(m-3)+2)/5) (by omega) (by omega)];rw[w (365*y+y/4) (by omega) (by omega),w (365*y+y/4-y/100) (by omega) (by omega),w (365*y+y/4-y/100+y/400) (by omega) (by omega)];rw[w (365*y+y/4-y/100+y/400+(153*(m-3)+2)/5) (by omega) (by omega),w (365*y+y/4-y/100+y/400+(153*(m-3)+2)/5+d) (by omega) (by omega),w (365*y+y/4-y/100+y/400+(153*(m-3)+2)/5+d-1) (by omega) (by omega),w _ (by omega) (by omega)]
 have h2:=h.det (vg y m d);simpa using h2.symm
def kZ (K:Int):Int:=365*(K/12)+K/12/4-K/12/100+K/12/400+(153*(K%12)+2)/5-730425
theorem qa (y m d:Int)(hm:1≤m∧m≤12):bV y m d=kZ (12*y+m-3)+d-1:=by
 unfold bV kZ;by_cases h:m<3
 ·rw[if_pos h];have e1:(12*y+m-3)/12=y-1:=by omega
  have e2:(12*y+m-3)%12=m+9:=by omega
  rw[e1,e2];omega
 ·rw[if_neg h];have e1:(12*y+m-3)/12=y:=by omega
  have e2:(12*y+m-3)%12=m-3:=by omega
  rw[e1,e2];omega
theorem adt (K:Int)(hK:0≤K):kZ K+28≤kZ (K+1):=by
 unfold kZ;by_cases h:K%12=11
 ·have e1:(K+1)/12=K/12+1:=by omega
  have e2:(K+1)%12=0:=by omega
  rw[e1,e2,h];generalize K/12=Y;omega
 ·have e1:(K+1)/12=K/12:=by omega
  have e2:(K+1)%12=K%12+1:=by omega
  rw[e1,e2];generalize K/12/4=a;generalize K/12/100=b;generalize K/12/400=c;omega
theorem K5 (K:Int)(hK:0≤K):∀n:Nat,kZ K+28*n≤kZ (K+n)
 |0=>by simp
 |n+1=>by
  have h1:=K5 K hK n;have h2:=adt (K+n) (by omega);have e:K+((n+1:Nat):Int)=K+n+1:=by omega
  rw[e];omega
theorem ads (y m:Int)(hy:1≤y∧y≤9000)(hm:1≤m∧m≤12):kY y m=kZ (12*y+m-3+1)-kZ (12*y+m-3):=by
 unfold kY;by_cases h:m=12
 ·rw[if_pos h];subst h;unfold kZ;have e1:(12*y+12-3)/12=y:=by omega
  have e2:(12*y+12-3)%12=9:=by omega
  have e3:(12*y+12-3+1)/12=y:=by omega
  have e4:(12*y+12-3+1)%12=10:=by omega
  rw[e1,e2,e3,e4];omega
 ·rw[if_neg h];have w1:IntKind.i64.wrap (m+1)=m+1:=aJ (by omega);rw[w1,EY y (m+1) 1 (by omega) (by omega) (by omega),EY y m 1 (by omega) (by omega) (by omega),qa _ _ _ (by omega),qa _ _ _ (by omega)];have e:12*y+(m+1)-3=12*y+m-3+1:=by omega
  rw[e];have hb:∀K:Int,0≤K→K≤200000→-10000000≤kZ K∧kZ K≤10000000:=by
   intro K h1 h2;unfold kZ;omega
  have b1:=hb (12*y+m-3+1) (by omega) (by omega);have b2:=hb (12*y+m-3) (by omega) (by omega);rw[aJ (by omega)];omega
end Rm
namespace Rm
open Go Go.Proofs Cx
theorem ZK (R:Int)(hR:0≤R∧R<146097):(0≤(R-R/1460+R/36524-R/146096)/365∧(R-R/1460+R/36524-R/146096)/365≤399)∧
 0≤R-(365*((R-R/1460+R/36524-R/146096)/365)+(R-R/1460+R/36524-R/146096)/365/4-(R-R/1460+R/36524-R/146096)/365/100)∧
 R-(365*((R-R/1460+R/36524-R/146096)/365)+(R-R/1460+R/36524-R/146096)/365/4-(R-R/1460+R/36524-R/146096)/365/100)≤365:=by
 by_cases h4:R=146096
 ·subst h4;decide
 have hc:R/146096=0:=by omega
 have hb:R/36524=0∨R/36524=1∨R/36524=2∨R/36524=3:=by omega
 obtain⟨b,w6⟩:∃b,b=R/36524:=⟨_,rfl⟩
 obtain⟨u,hu⟩:∃u,u=(R-36524*b)/1461:=⟨_,rfl⟩
 obtain⟨w,hw⟩:∃w,w=R-36524*b-1461*u:=⟨_,rfl⟩
 have ew:0≤b∧b≤3:=by omega
 have cd:0≤w∧w≤1460:=by omega
 have Q8:0≤u∧u≤24:=by omega
 have oc:R=36524*b+1461*u+w:=by omega
 rw[hc,←w6];obtain⟨a,ha⟩:∃a,a=R/1460:=⟨_,rfl⟩
 rw[←ha];have key:∀k:Int,0≤k→k≤3→365*k≤w→(k<3→w<365*k+365)→(R-a+b-0)/365=100*b+4*u+k:=by
  intro k k0 k3 h1 h2;by_cases hk:k=3
  ·subst hk;have:a=25*b+u∨a=25*b+u+1:=by omega
   rcases this with e|e
   ·by_cases ED:w=1460
    ·omega
    ·omega
   ·omega
  ·have:=h2 (by omega);have e:a=25*b+u:=by omega
   omega
 have hk:∃k:Int,0≤k∧k≤3∧365*k≤w∧(k<3→w<365*k+365):=by
  by_cases h1:w<365
  ·exact⟨0,by omega⟩
  by_cases h2:w<730
  ·exact⟨1,by omega⟩
  by_cases h3:w<1095
  ·exact⟨2,by omega⟩
  ·exact⟨3,by omega⟩
 obtain⟨k,k0,k3,h1,h2⟩:=hk;rw[key k k0 k3 h1 h2];have e1:(100*b+4*u+k)/4=25*b+u:=by omega
 have e2:(100*b+4*u+k)/100=b:=by omega
 rw[e1,e2];refine⟨by omega,by omega,?_⟩;by_cases jX:k=3
 ·subst jX;omega
 ·have:=h2 (by omega);omega
theorem Ag (n:Int)(h:0≤n∧n≤100400):(1≤(bz n).2.1∧(bz n).2.1≤12)∧(1≤(bz n).2.2∧(bz n).2.2≤31)∧(1000≤(bz n).1∧(bz n).1≤3000)∧bV (bz n).1 (bz n).2.1 (bz n).2.2=n:=by
 unfold bz;simp only[];obtain⟨R,oc⟩:∃R,R=(n+730425)%146097:=⟨_,rfl⟩
 obtain⟨E,DP⟩:∃E,E=(n+730425)/146097:=⟨_,rfl⟩
 have hn:n=146097*E+R-730425:=by omega
 have hE:E=4∨E=5:=by omega
 have hR:0≤R∧R<146097:=by omega
 rw[←oc,←DP];clear oc DP;obtain⟨⟨y0,y1⟩,d0,d1⟩:=ZK R hR;generalize (R-R/1460+R/36524-R/146096)/365=Y at*;obtain⟨D,hD⟩:∃D,D=R-(365*Y+Y/4-Y/100):=⟨_,rfl⟩
 rw[←hD] at d0 d1 ⊢;obtain⟨M,hM⟩:∃M,M=(5*D+2)/153:=⟨_,rfl⟩
 rw[←hM];have hM2:0≤M∧M≤11:=by omega
 have Ke:1≤D-(153*M+2)/5+1∧D-(153*M+2)/5+1≤31:=by omega
 have q4:(Y+400*E)/4=Y/4+100*E:=by omega
 have afZ:(Y+400*E)/100=Y/100+4*E:=by omega
 have af0:(Y+400*E)/400=E:=by omega
 by_cases mj:12<M+3
 ·rw[if_pos mj];have h3:M+3-12<3:=by omega
  rw[if_pos h3];refine⟨by omega,Ke,by omega,?_⟩;unfold bV;rw[if_pos h3];have e:Y+400*E+1-1=Y+400*E:=by omega
  have e2:M+3-12+9=M:=by omega
  rw[e,e2,q4,afZ,af0];omega
 ·rw[if_neg mj];have h3:¬M+3<3:=by omega
  rw[if_neg h3];refine⟨by omega,Ke,by omega,?_⟩;unfold bV;rw[if_neg h3];have e2:M+3-3=M:=by omega
  rw[e2,q4,afZ,af0];omega
theorem ai8 (y m d:Int):ak T 184 [.int y,.int m,.int d] (.tup [.int (tu y m d),.int 0])∨ak T 184 [.int y,.int m,.int d] (.tup [.int 0,.int 3]):=by
 by_cases h0:(((2000≤y∧y≤2300)∧1≤m)∧m≤12)∧1≤d
 ·by_cases h2:d≤kY y m
  ·cases h1:aU (tu y m d)
   ·refine .inr (.of_tree rfl sq tU ?_);simp[oQ];rw[if_pos h0];refine⟨_,ri y m,?_⟩;simp[h0,h2];refine⟨_,vg _ _ _,_,oT _,?_⟩;simp[h1]
   ·refine .inl (.of_tree rfl sq tU ?_);simp[oQ];rw[if_pos h0];exact⟨_,ri y m,⟨h0,h2⟩,_,vg _ _ _,_,oT _,h1,rfl⟩
  ·refine .inr (.of_tree rfl sq tU ?_);simp[oQ];rw[if_pos h0];refine⟨_,ri y m,?_⟩;simp[h0,h2]
 ·refine .inr (.of_tree rfl sq tU ?_);simp[oQ];rw[if_neg h0];intro a1 a2 a3 a4 a5;exact absurd ⟨⟨⟨⟨a1,a2⟩,a3⟩,a4⟩,a5⟩ h0
theorem atc (d n x e:Int)(hd:0≤d∧d≤100000)(hn:1≤n∧n≤5000)(h:ak T 159 [.int d,.int n] (.tup [.int x,.int e]))(he:e=0):d≤x:=by
 obtain⟨hm,Ke,hy,xj⟩:=Ag d (by omega);have Qf:=JB d (by omega);generalize (bz d).1=y at*;generalize (bz d).2.1=m at*;generalize (bz d).2.2=nX at*;obtain⟨A,hA⟩:∃A,A=12*y+m-1+n:=⟨_,rfl⟩
 have wA:IntKind.i64.wrap (IntKind.i64.wrap (IntKind.i64.wrap (IntKind.i64.wrap (12*y)+m)-1)+n)=A:=by
  rw[aJ (n:=12*y) (by omega),aJ (n:=12*y+m) (by omega),aJ (n:=12*y+m-1) (by omega),aJ (by omega)];exact hA.symm
 have wY:IntKind.i64.wrap (A.tdiv 12)=A/12:=by rw[vU (by omega)];exact aJ (by omega)
 have wM:IntKind.i64.wrap (A.tmod 12+1)=A%12+1:=by rw[ub (by omega)];exact aJ (by omega)
 have hL:=ads (A/12) (A%12+1) (by omega) (by omega);have n1:¬n< -5000:=by omega
 have n2:¬5000<n:=by omega
 have hv:aU d=true:=by simp[aU];omega
 have cS:=oT d;rw[hv] at cS;have fin:∀r:D,ak T 184 [.int (A/12),.int (A%12+1),.int (if kY (A/12) (A%12+1)<nX then kY (A/12) (A%12+1) else nX)] r→ak T 159 [.int d,.int n] (.tup [r.tget 0,r.tget 1]):=by
  intro r hr;refine .of_tree rfl CK GX ?_;simp[yB,n1,n2];refine⟨_,cS,?_⟩;simp;refine⟨_,Qf,?_⟩;simp[wA,wY,wM];refine⟨_,ri _ _,?_⟩;by_cases hl:kY (A/12) (A%12+1)<nX
  ·rw[if_pos hl] at hr;simp[hl];exact⟨_,hr,rfl,rfl⟩
  ·rw[if_neg hl] at hr;simp[hl];exact⟨_,hr,rfl,rfl⟩
 have hK:12*(A/12)+(A%12+1)-3=12*y+m-3+n:=by omega
 have lH:=K5 (12*y+m-3) (by omega) n.toNat;have fR:=K5 (12*y+m-3) (by omega) (n.toNat+1);have en:((n.toNat:Nat):Int)=n:=by omega
 have en2:((n.toNat+1:Nat):Int)=n+1:=by omega
 rw[en] at lH;rw[en2] at fR;have e3:12*y+m-3+(n+1)=12*y+m-3+n+1:=by omega
 rw[e3] at fR;have w8:=qa y m nX hm;rw[xj] at w8;rw[hK] at hL;rcases ai8 (A/12) (A%12+1) (if kY (A/12) (A%12+1)<nX then kY (A/12) (A%12+1) else nX) with hD|hD
 ·have h2:=(fin _ hD).det h;simp at h2;obtain⟨h2,_⟩:=h2;rw[←h2];have hb:∀K:Int,0≤K→K≤200000→-10000000≤kZ K∧kZ K≤10000000:=by
   intro K h1 h2;unfold kZ;omega
  by_cases hl:kY (A/12) (A%12+1)<nX
  ·rw[if_pos hl];have hs:=adt (12*y+m-3+n) (by omega);rw[EY _ _ _ (by omega) (by omega) (by omega),qa _ _ _ (by omega),hK,hL];omega
  ·rw[if_neg hl];rw[EY _ _ _ (by omega) (by omega) (by omega),qa _ _ _ (by omega),hK];omega
 ·have h2:=(fin _ hD).det h;simp at h2;omega
end Rm
namespace Rm
open Go Go.Proofs Cx
def td (y:Int):Bool:=decide (y%4=0)&&(!decide (y%100=0)||decide (y%400=0))
theorem EN (y:Int):td y=true↔y%4=0∧(y%100≠0∨y%400=0):=by
 simp[td]
def ef (y m:Int):Int:=if m=2 then(if td y=true then 29 else 28) else if m=4∨m=6∨m=9∨m=11 then 30 else 31
def kI (y:Int):Int:=if td y=true then 366 else 365
theorem EO (y m:Int):28≤ef y m∧ef y m≤31:=by
 unfold ef
 repeat' split
 all_goals omega
theorem akO (R:Int)(hR:0≤R∧R<146097):R-(365*((R-R/1460+R/36524-R/146096)/365)+(R-R/1460+R/36524-R/146096)/365/4-(R-R/1460+R/36524-R/146096)/365/100)≤364∨
 (((R-R/1460+R/36524-R/146096)/365+1)%4=0∧(((R-R/1460+R/36524-R/146096)/365+1)%100≠0∨((R-R/1460+R/36524-R/146096)/365+1)%400=0)):=by
 by_cases h4:R=146096
 ·subst h4;decide
 have hc:R/146096=0:=by omega
 have hb:R/36524=0∨R/36524=1∨R/36524=2∨R/36524=3:=by omega
 obtain⟨b,w6⟩:∃b,b=R/36524:=⟨_,rfl⟩
 obtain⟨u,hu⟩:∃u,u=(R-36524*b)/1461:=⟨_,rfl⟩
 obtain⟨w,hw⟩:∃w,w=R-36524*b-1461*u:=⟨_,rfl⟩
 have ew:0≤b∧b≤3:=by omega
 have cd:0≤w∧w≤1460:=by omega
 have Q8:0≤u∧u≤24:=by omega
 have oc:R=36524*b+1461*u+w:=by omega
 rw[hc,←w6];obtain⟨a,ha⟩:∃a,a=R/1460:=⟨_,rfl⟩
 rw[←ha];have key:∀k:Int,0≤k→k≤3→365*k≤w→(k<3→w<365*k+365)→(R-a+b-0)/365=100*b+4*u+k:=by
  intro k k0 k3 h1 h2;by_cases hk:k=3
  ·subst hk;have:a=25*b+u∨a=25*b+u+1:=by omega
   rcases this with e|e
   ·by_cases ED:w=1460
    ·omega
    ·omega
   ·omega
  ·have:=h2 (by omega);have e:a=25*b+u:=by omega
   omega
 have hk:∃k:Int,0≤k∧k≤3∧365*k≤w∧(k<3→w<365*k+365):=by
  by_cases h1:w<365
  ·exact⟨0,by omega⟩
  by_cases h2:w<730
  ·exact⟨1,by omega⟩
  by_cases h3:w<1095
  ·exact⟨2,by omega⟩
  ·exact⟨3,by omega⟩
 obtain⟨k,k0,k3,h1,h2⟩:=hk;rw[key k k0 k3 h1 h2];have e1:(100*b+4*u+k)/4=25*b+u:=by omega
 have e2:(100*b+4*u+k)/100=b:=by omega
 rw[e1,e2];by_cases jX:k=3
 ·subst jX;by_cases aFN:u=24
  ·left;omega
  ·right;omega
 ·have:=h2 (by omega);left;omega
theorem ZI (n:Int)(h:0≤n∧n≤100400):(bz n).2.2≤ef (bz n).1 (bz n).2.1:=by
 unfold bz;simp only[];obtain⟨R,oc⟩:∃R,R=(n+730425)%146097:=⟨_,rfl⟩
 obtain⟨E,DP⟩:∃E,E=(n+730425)/146097:=⟨_,rfl⟩
 have hR:0≤R∧R<146097:=by omega
 rw[←oc,←DP];clear oc DP;obtain⟨⟨y0,y1⟩,d0,d1⟩:=ZK R hR;have gF:=akO R hR;generalize (R-R/1460+R/36524-R/146096)/365=Y at*;obtain⟨D,hD⟩:∃D,D=R-(365*Y+Y/4-Y/100):=⟨_,rfl⟩
 rw[←hD] at d0 d1 gF ⊢;obtain⟨M,hM⟩:∃M,M=(5*D+2)/153:=⟨_,rfl⟩
 rw[←hM];have hM2:0≤M∧M≤11:=by omega
 by_cases mj:12<M+3
 ·rw[if_pos mj,if_pos (by omega)];have hm:M=10∨M=11:=by omega
  rcases hm with hm|hm
  ·subst hm;unfold ef;rw[if_neg (by omega),if_neg (by omega)];omega
  ·subst hm;unfold ef;rw[if_pos (by omega)];split
   ·omega
   ·rename_i hl;have ix:¬td (Y+400*E+1)=true:=hl;rw[EN] at ix;omega
 ·rw[if_neg mj,if_neg (by omega)];unfold ef;rw[if_neg (by omega)];split<;>omega
theorem Lg (y:Int)(hy:1≤y):bV (y+1) 1 1=bV y 1 1+kI y:=by
 unfold bV kI;rw[if_pos (by omega),if_pos (by omega)];have e:y+1-1=y:=by omega
 rw[e];split
 ·rename_i h;rw[EN] at h;omega
 ·rename_i h;rw[EN] at h;omega
theorem Lf (y m:Int)(hm:1≤m∧m≤11)(hy:1≤y):bV y (m+1) 1=bV y m 1+ef y m:=by
 unfold bV ef;by_cases h1:m=1
 ·subst h1;simp;omega
 by_cases h2:m=2
 ·subst h2;rw[if_neg (by omega),if_pos (by omega),if_pos rfl];split
  ·rename_i h;rw[EN] at h;omega
  ·rename_i h;rw[EN] at h;omega
 ·rw[if_neg (by omega),if_neg (by omega),if_neg h2];have:m=3∨m=4∨m=5∨m=6∨m=7∨m=8∨m=9∨m=10∨m=11:=by omega
  rcases this with h|h|h|h|h|h|h|h|h<;>subst h<;>simp<;>omega
theorem RH (y:Int)(hy:1≤y):bV (y+1) 1 1=bV y 12 1+31:=by
 unfold bV;rw[if_pos (by omega),if_neg (by omega)];have e:y+1-1=y:=by omega
 rw[e];omega
theorem tq (a b:Int)(h:a≤b):bV a 1 1≤bV b 1 1:=by
 unfold bV;rw[if_pos (by omega),if_pos (by omega)];omega
theorem RG (y m d:Int):bV y m d=bV y m 1+d-1:=by
 unfold bV;split<;>omega
theorem vf (y:Int)(hy:1≤y)(a b:Int)(ha:1≤a)(hb:b≤12)(h:a≤b):bV y a 1≤bV y b 1:=by
 rw[qa y a 1 (by omega),qa y b 1 (by omega)];have:=K5 (12*y+a-3) (by omega) (b-a).toNat;have e:((b-a).toNat:Int)=b-a:=by omega
 rw[e] at this;have e2:12*y+a-3+(b-a)=12*y+b-3:=by omega
 rw[e2] at this;omega
theorem Pm (n:Int)(h:0≤n∧n≤100000):2000≤(bz n).1∧(bz n).1≤2300∧bV (bz n).1 1 1≤n∧n<bV ((bz n).1+1) 1 1:=by
 obtain⟨hm,hd,hy,hn⟩:=Ag n (by omega);have hl:=ZI n (by omega);generalize (bz n).1=y at*;generalize (bz n).2.1=m at*;generalize (bz n).2.2=d at*;have e:=RG y m d;have h1:=vf y (by omega) 1 m (by omega) (by omega) (by omega);have h2:=vf y (by omega) m 12 (by omega) (by omega) (by omega);have h3:=RH y (by omega);have h5:n<bV (y+1) 1 1:=by
  by_cases mj:m=12
  ·subst mj;omega
  ·have h4:=Lf y m (by omega) (by omega);have h6:=vf y (by omega) (m+1) 12 (by omega) (by omega) (by omega);omega
 refine⟨?_,?_,by omega,h5⟩
 ·refine Cj fun hc=>?_;have:=tq (y+1) 2000 (by omega);have e0:bV 2000 1 1=0:=by decide
  omega
 ·refine Cj fun hc=>?_;have:=tq 2301 y (by omega);have e0:bV 2301 1 1=109938:=by decide
  omega
end Rm
