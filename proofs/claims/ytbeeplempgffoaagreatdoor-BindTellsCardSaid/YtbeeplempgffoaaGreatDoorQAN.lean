/-
  Shared texts of this claim.
-/
import Derived.Test.YtbeeplempgffoaaGreatDoorQAM
import Derived.Test.YtbeeplempgffoaaGreatDoorQAL
set_option linter.unusedSimpArgs false
set_option linter.unusedVariables false
noncomputable section
namespace Rm
open Go Go.Proofs Cx
structure RightD (r:Realm):Prop where
 small:Small r
 halts:jr r
theorem RightD.cities {r:Realm}(h:RightD r)(c:City)(hc:c∈r.cities):uy c:=by
 obtain⟨h1,h2,h3,_⟩:=h.small.city c hc;exact⟨by omega,by omega,by omega⟩
theorem Bw (d:Int)(t:Tenor):∃n e:Int,aj T 124 [.int d,jA t] (.tup [.int n,.int e]):=by
 by_cases h0:t.n<0
 ·refine⟨0,3,.of_tree rfl sR uI ?_⟩;simp[qw,h0]
 by_cases h1:20000<t.n
 ·refine⟨0,3,.of_tree rfl sR uI ?_⟩;simp[qw,h0,h1]
 by_cases h2:t.unit=1
 ·obtain⟨n,e,h,_⟩:=afY d t.n;refine⟨n,e,.of_tree rfl sR uI ?_⟩;simp[qw,h0,h1,h2];refine⟨_,h,?_⟩;simp
 ·refine⟨IntKind.i64.wrap (d+t.n),0,.of_tree rfl sR uI ?_⟩;simp[qw,h0,h1,h2]
theorem agP (r:Realm)(hr:RightD r)(b:Bill)(seen:Int):∃n e:Int,aj T 78 [aL r,dr b,.int seen] (.tup [.int n,.int e]):=by
 have I8:D.agg [D.int b.tenor.kind,D.int b.tenor.n,D.int b.tenor.unit]=jA b.tenor:=rfl;by_cases h0:b.tenor.kind=0
 ·refine⟨seen,0,.of_tree rfl uZ xn ?_⟩;simp[mQ,h0]
 by_cases h1:b.tenor.kind=1
 ·obtain⟨n,e,h⟩:=Bw seen b.tenor;refine⟨n,e,.of_tree rfl uZ xn ?_⟩;have cr:(b.tenor.kind=1)=True:=eq_true h1;simp[mQ,h0,cr];refine⟨_,h,?_⟩;simp
 by_cases h2:b.tenor.kind=2
 ·obtain⟨n,e,h⟩:=Bw b.day b.tenor;refine⟨n,e,.of_tree rfl uZ xn ?_⟩;have gF:(b.tenor.kind=2)=True:=eq_true h2;simp[mQ,h0,h1,gF];refine⟨_,h,?_⟩;simp
 by_cases h4:b.tenor.kind=4
 ·obtain⟨n,e,h,_⟩:=ags r b.city b.pay (by have:=hr.small.us;omega);refine⟨IntKind.i64.wrap (b.day+n),e,.of_tree rfl uZ xn ?_⟩;have m5:(b.tenor.kind=4)=True:=eq_true h4;simp[mQ,h0,h1,h2,m5];refine⟨_,h,?_⟩;simp
 ·refine⟨b.tenor.n,0,.of_tree rfl uZ xn ?_⟩;simp[mQ,h0,h1,h2,h4]
theorem aj.ex_of_tree {tab:Nat→Option PC}{ext:Nat→Option (aR→List D→Option D)}{f:Nat}{pc:PC}{t:PT}{ds:List D}{P:D→Prop}(hx:ext f=none)(ht:tab f=some pc)(he:tree pc=t)
 (h:aE (fb tab ext) t (l8 ds) (fun x=>∃d,x=.ret d∧P d)):∃d,aj (fb tab ext) f ds d∧P d:=by
 subst he;obtain⟨x,⟨d,rfl,hd⟩,n0,hn⟩:=afh (J1 ⟨fun _ _ _ h=>(by obtain⟨_,h,_⟩:=h;cases h),fun _ _ _ _ _ _ h=>(by obtain⟨_,h,_⟩:=h;cases h),fun _ h=>h⟩ h);exact⟨d,.of_pc hx ht ⟨.ret d,rfl,n0,hn⟩,hd⟩
def FT (d:D):Prop:=∃n e:Int,d=.tup [.int n,.int e]
@[simp] theorem ayu (n e:Int):FT (.tup [.int n,.int e])=True:=eq_true ⟨n,e,rfl⟩
theorem xz (r:Realm)(hr:RightD r)(b:Bill)(seen bA:Int):∃d,aj T 36 [aL r,dr b,.int seen,.int bA] d∧FT d:=by
 have I8:D.agg [D.int b.tenor.kind,D.int b.tenor.n,D.int b.tenor.unit]=jA b.tenor:=rfl;have gG:=SS r hr.small;refine aj.ex_of_tree rfl Mp VG ?_;simp[Fz];refine⟨_,gG,?_⟩;by_cases h0:dJ r=0
 case neg=>simp[h0]
 simp[h0];refine⟨_,Dp r b.city,?_⟩;cases h1:aF b.city r.cities.length
 ·simp[h1]
 simp[h1];refine⟨_,Dp r b.pay,?_⟩;cases h2:aF b.pay r.cities.length
 ·simp[h2]
 simp[h2];refine⟨_,tN b.day,?_⟩;cases h3:bx b.day
 ·simp[h3]
 simp[h3];intro _ _ _ _;have hp:0≤b.pay∧b.pay<r.cities.length:=by simpa [aF] using h2
 have fin:0≤bA→bA≤20000→∃d,aj T 78 [aL r,dr b,D.int seen] d∧
  if(d.tget 1).i=0 then ∃d1,aj T 76 [d.tget 0] d1∧(d1.b=true→IntKind.i64.wrap ((d.tget 0).i+bA)≤100000→
        ∃d2,aj T 79 [aL r,D.int b.pay,D.int (IntKind.i64.wrap ((d.tget 0).i+bA))] d2∧FT (D.tup [d2.tget 0,d2.tget 1]))
  else FT (D.tup [D.int 0,d.tget 1]):=by
  intro rn oB;obtain⟨n,e,h⟩:=agP r hr b seen;refine⟨_,h,?_⟩;by_cases he:e=0
  ·simp[he];refine⟨_,tN n,?_⟩;cases hd:bx n
   ·simp[hd]
   have eJ:0≤n∧n≤100000:=by simpa [bx] using hd
   have hw:IntKind.i64.wrap (n+bA)=n+bA:=aN (by omega);simp[hd,hw];intro hle;refine⟨_,Ta r hr.halts b.pay (n+bA) hp hr.cities (by omega) (by omega),?_⟩;simp
  ·simp[he]
 by_cases hs:seen=-1
 ·simp[hs] at fin ⊢;intro rn oB;refine⟨_,Bp b.tenor,?_⟩;simp;intro _;exact fin rn oB
 ·simp[hs] at fin ⊢;refine⟨_,tN seen,?_⟩;cases hk:bx seen
  ·simp[hk]
  simp[hk];intro rn oB;exact⟨⟨_,Bp b.tenor⟩,fin rn oB⟩
def pD (r:Realm)(b:Bill)(seen bA:Int):Int×Int:=
 open Classical in if h:RightD r then((xz r h b seen bA).choose_spec.2.choose,(xz r h b seen bA).choose_spec.2.choose_spec.choose) else(0,0)
theorem LL (r:Realm)(hr:RightD r)(b:Bill)(seen bA:Int):aj T 36 [aL r,dr b,.int seen,.int bA] (.tup [.int (pD r b seen bA).1,.int (pD r b seen bA).2]):=by
 have h:=(xz r hr b seen bA).choose_spec.2.choose_spec.choose_spec;have h1:=(xz r hr b seen bA).choose_spec.1;rw[h] at h1;have e:pD r b seen bA=((xz r hr b seen bA).choose_spec.2.choose,(xz r hr b seen bA).choose_spec.2.choose_spec.choose):=by unfold pD;rw[dif_pos hr]
 rw[e];exact h1
def kG (r:Realm)(forum:Int)(f:File)(day:Int):Int:=
 if(bq f day).signs=[] then-1
 else if(pD r f.bill (lK (bq f day)) (max (iO (eG r forum 6 (bq f day) day)) 0)).2≠0 then-1
 else(pD r f.bill (lK (bq f day)) (max (iO (eG r forum 6 (bq f day) day)) 0)).1
@[simp] theorem aCp (x:File)(a0 a1 a2 a3 a4 a5 a6 a7 a8 a9 gV iY gW iZ ja jU jV jW km:D):(cV [a0,a1,a2,a3,a4,a5,a6,a7,a8,a9,gV,iY,gW,iZ,ja,jU,jV,jW,km] 0 [.int x.bill.drawer,.int x.bill.drawee,.int x.bill.payee,.int x.bill.sum,.int x.bill.currency,.int x.bill.tenor.kind,.int x.bill.tenor.n,.int x.bill.tenor.unit,.int x.bill.day,.int x.bill.city,.int x.bill.pay,.int x.bill.need,.int x.bill.rate,.int x.bill.flags,.int x.bill.parts,signs x.signs,alters x.alters,acts x.acts,facts x.facts])[15]?.getD D.none=signs x.signs:=_root_.id rfl
theorem agl (r:Realm)(hr:Right r)(hd:RightD r)(forum:Int)(f:File)(day:Int)(hf:FewS f):aj T 16 [aL r,.int forum,cd f,.int day] (.int (kG r forum f day)):=by
 refine .of_tree rfl (lA 50 (by kernel_rfl)) atb ?_;simp[Tq];refine⟨_,SU f day (by have:=hf.signs;omega) (by have:=hf.acts;omega) (by have:=hf.alters;omega) (by have:=hf.facts;omega),?_⟩;have hg:=hf.at_ day;have hb:(bq f day).bill=f.bill:=rfl;unfold kG;generalize bq f day=g at*;simp;by_cases h0:g.signs=[]
 ·simp[h0]
 simp[h0];refine⟨_,WV r hr forum 6 g day hg,_,agF _,_,arV g (by have:=hg.signs;omega) (by have:=hg.acts;omega),?_⟩;have hm:(if(D.int (iO (eG r forum 6 g day))).i<0 then D.int 0 else D.int (iO (eG r forum 6 g day)))=D.int (max (iO (eG r forum 6 g day)) 0):=by
  simp only[Xz];split
  ·rw[Ww (by omega)]
  ·rw[LR (by omega)]
 rw[hm,hb];refine⟨_,LL r hd f.bill _ _,?_⟩;by_cases he:(pD r f.bill (lK g) (max (iO (eG r forum 6 g day)) 0)).2=0<;>simp[he]
end Rm
namespace Rm
open Go Go.Proofs Cx
structure View where
 realm:Realm
 forum:Int
 day:Int
 file:File
 form:Int
 due:Int
 deriving Inhabited
def dt (x:View):D:=.agg [strs x.realm.currencies,mY x.realm.cities,groups x.realm.groups,firms x.realm.firms,orders x.realm.orders,usances x.realm.usances,rates x.realm.rates,halts x.realm.halts,.int x.forum,.int x.day,.int x.file.bill.drawer,.int x.file.bill.drawee,.int x.file.bill.payee,.int x.file.bill.sum,.int x.file.bill.currency,.int x.file.bill.tenor.kind,.int x.file.bill.tenor.n,.int x.file.bill.tenor.unit,.int x.file.bill.day,.int x.file.bill.city,.int x.file.bill.pay,.int x.file.bill.need,.int x.file.bill.rate,.int x.file.bill.flags,.int x.file.bill.parts,signs x.file.signs,alters x.file.alters,acts x.file.acts,facts x.file.facts,.int x.form,.int x.due]
@[simp] theorem ayW (x:View):(dt x).cells=[strs x.realm.currencies,mY x.realm.cities,groups x.realm.groups,firms x.realm.firms,orders x.realm.orders,usances x.realm.usances,rates x.realm.rates,halts x.realm.halts,.int x.forum,.int x.day,.int x.file.bill.drawer,.int x.file.bill.drawee,.int x.file.bill.payee,.int x.file.bill.sum,.int x.file.bill.currency,.int x.file.bill.tenor.kind,.int x.file.bill.tenor.n,.int x.file.bill.tenor.unit,.int x.file.bill.day,.int x.file.bill.city,.int x.file.bill.pay,.int x.file.bill.need,.int x.file.bill.rate,.int x.file.bill.flags,.int x.file.bill.parts,signs x.file.signs,alters x.file.alters,acts x.file.acts,facts x.file.facts,.int x.form,.int x.due]:=_root_.id rfl
@[simp] theorem aCg (x:View):D.agg [strs x.realm.currencies,mY x.realm.cities,groups x.realm.groups,firms x.realm.firms,orders x.realm.orders,usances x.realm.usances,rates x.realm.rates,halts x.realm.halts,.int x.forum,.int x.day,.int x.file.bill.drawer,.int x.file.bill.drawee,.int x.file.bill.payee,.int x.file.bill.sum,.int x.file.bill.currency,.int x.file.bill.tenor.kind,.int x.file.bill.tenor.n,.int x.file.bill.tenor.unit,.int x.file.bill.day,.int x.file.bill.city,.int x.file.bill.pay,.int x.file.bill.need,.int x.file.bill.rate,.int x.file.bill.flags,.int x.file.bill.parts,signs x.file.signs,alters x.file.alters,acts x.file.acts,facts x.file.facts,.int x.form,.int x.due]=dt x:=_root_.id rfl
@[simp] theorem aze (x:View):gX 31 (dt x)=dt x:=_root_.id rfl
@[simp] theorem aCr (x:View)(a0 a1 a2 a3 a4 a5 a6 a7 a8 a9 gV iY gW iZ ja jU jV jW km Bq Br Bs Bt Bu Mb Mc Md Me Mf Mg Mh:D):D.agg (cV [a0,a1,a2,a3,a4,a5,a6,a7,a8,a9,gV,iY,gW,iZ,ja,jU,jV,jW,km,Bq,Br,Bs,Bt,Bu,Mb,Mc,Md,Me,Mf,Mg,Mh] 0 [strs x.realm.currencies,mY x.realm.cities,groups x.realm.groups,firms x.realm.firms,orders x.realm.orders,usances x.realm.usances,rates x.realm.rates,halts x.realm.halts,.int x.forum,.int x.day,.int x.file.bill.drawer,.int x.file.bill.drawee,.int x.file.bill.payee,.int x.file.bill.sum,.int x.file.bill.currency,.int x.file.bill.tenor.kind,.int x.file.bill.tenor.n,.int x.file.bill.tenor.unit,.int x.file.bill.day,.int x.file.bill.city,.int x.file.bill.pay,.int x.file.bill.need,.int x.file.bill.rate,.int x.file.bill.flags,.int x.file.bill.parts,signs x.file.signs,alters x.file.alters,acts x.file.acts,facts x.file.facts,.int x.form,.int x.due])=dt x:=_root_.id rfl
@[simp] theorem ayU (x:View):(dt x).c 8=.int x.forum:=_root_.id rfl
@[simp] theorem ayV (x:View):(dt x).c 9=.int x.day:=_root_.id rfl
@[simp] theorem ayz (x:View):(dt x).c 10=.int x.file.bill.drawer:=_root_.id rfl
@[simp] theorem ayA (x:View):(dt x).c 11=.int x.file.bill.drawee:=_root_.id rfl
@[simp] theorem ayB (x:View):(dt x).c 12=.int x.file.bill.payee:=_root_.id rfl
@[simp] theorem ayC (x:View):(dt x).c 13=.int x.file.bill.sum:=_root_.id rfl
@[simp] theorem ayD (x:View):(dt x).c 14=.int x.file.bill.currency:=_root_.id rfl
@[simp] theorem ayE (x:View):(dt x).c 15=.int x.file.bill.tenor.kind:=_root_.id rfl
@[simp] theorem ayF (x:View):(dt x).c 16=.int x.file.bill.tenor.n:=_root_.id rfl
@[simp] theorem ayG (x:View):(dt x).c 17=.int x.file.bill.tenor.unit:=_root_.id rfl
@[simp] theorem ayH (x:View):(dt x).c 18=.int x.file.bill.day:=_root_.id rfl
@[simp] theorem ayI (x:View):(dt x).c 19=.int x.file.bill.city:=_root_.id rfl
@[simp] theorem ayJ (x:View):(dt x).c 20=.int x.file.bill.pay:=_root_.id rfl
@[simp] theorem ayK (x:View):(dt x).c 21=.int x.file.bill.need:=_root_.id rfl
@[simp] theorem ayL (x:View):(dt x).c 22=.int x.file.bill.rate:=_root_.id rfl
@[simp] theorem ayM (x:View):(dt x).c 23=.int x.file.bill.flags:=_root_.id rfl
@[simp] theorem ayN (x:View):(dt x).c 24=.int x.file.bill.parts:=_root_.id rfl
@[simp] theorem ayO (x:View):(dt x).c 25=signs x.file.signs:=_root_.id rfl
@[simp] theorem ayP (x:View):(dt x).c 26=alters x.file.alters:=_root_.id rfl
@[simp] theorem ayQ (x:View):(dt x).c 27=acts x.file.acts:=_root_.id rfl
@[simp] theorem ayR (x:View):(dt x).c 28=facts x.file.facts:=_root_.id rfl
@[simp] theorem ayS (x:View):(dt x).c 29=.int x.form:=_root_.id rfl
@[simp] theorem ayT (x:View):(dt x).c 30=.int x.due:=_root_.id rfl
@[simp] theorem ay4 (x:View):gX 8 (dt x)=aL x.realm:=_root_.id rfl
def kE:List Int→Int→Int
 |[],o=>o
 |x::l,o=>if x=0 then 0 else kE l (if x=2 then 2 else o)
theorem anv {l:List Int}{o:Int}(hn:∀x,x∈l→¬x=0)(h2:o=1∨o=2):kE l o=if o=2∨2∈l then 2 else 1:=by
 induction l generalizing o with
 |nil=>rcases h2 with h|h<;>simp[kE,h]
 |cons x l ih=>
  have hx:=hn x (by simp);unfold kE;rw[if_neg hx];by_cases e:x=2
  ·rw[if_pos e,ih (fun y hy=>hn y (by simp[hy])) (.inr rfl)];simp[e]
  ·rw[if_neg e,ih (fun y hy=>hn y (by simp[hy])) h2];simp[sJ e]
theorem aaa:∀{l:List Int} {o:Int} {k:Nat} (hk:k<l.length),(∀j (hj:j<k),¬l[j]'(by omega)=0)→l[k]=0→kE l o=0
 |[],o,k,hk,_,_=>by simp at hk
 |x::l,o,0,hk,hj,h=>by
  unfold kE;rw[if_pos (by simpa using h)]
 |x::l,o,k+1,hk,hj,h=>by
  unfold kE;rw[if_neg (by have:=hj 0 (by omega);simpa using this)];exact aaa (k:=k) (by simpa using hk) (fun j vH=>by have:=hj (j+1) (by omega);simpa using this) (by simpa using h)
def Ak (l:List Int)(k:Nat):Int:=if 2∈l.take k then 2 else 1
theorem aab (l:List Int)(hl:l.length≤100000):aj T 30 [ints l] (.int (kE l 1)):=by
 refine .of_tree rfl (lA 92 (by kernel_rfl)) atl ?_;simp[TA];refine aH.scan l.length (fun k=>l.getD k 0≠0) (fun k=>[.int 0,.int (Ak l k),.int k]) (fun _=>[]) ?_ (fun k hk hj az=>?_) (fun k hk hj az=>?_) (fun hj=>?_)
 ·simp[Ak]
 ·have hw:=ba hk (by omega);have hx:¬l[k]=0:=by simpa [hk] using az
  have hm:Ak l (k+1)=if l[k]=2 then 2 else Ak l k:=by
   unfold Ak;rw[gU hk];simp only[dp,FM];by_cases e:l[k]=2
   ·simp[e]
   ·simp[e,sJ e]
  rw[hm];simp[RL,Ed,hk,hw,hx];by_cases e:l[k]=2<;>simp[e]
 ·have hx:l[k]=0:=by simpa [hk] using az
  simp[RL,Ed,hk,hx];rw[aaa hk (fun j vH=>by simpa [show j<l.length by omega] using hj j vH) hx]
 ·simp[RL,Ed];rw[anv (fun x hx=>by obtain⟨j,gI,rfl⟩:=jt hx;simpa [gI] using hj j gI) (.inl rfl)];simp[Ak]
theorem FE (a b:Int):aj T 12 [.int a,.int b] (.int (kE [a,b] 1)):=by
 refine .of_tree rfl (lA 97 (by kernel_rfl)) ati ?_;simp[Tw];exact aab [a,b] (by simp)
def jP (v:View)(q sign:Int):Int:=kS (jX v.realm v.forum q ⟨v.file,sign,sign,-1,v.due,v.day⟩)
theorem S6 (v:View)(hr:Right v.realm)(hf:FewS v.file)(q sign:Int):aj T 64 [dt v,.int q,.int sign] (.int (jP v q sign)):=by
 refine .of_tree rfl (lA 91 (by kernel_rfl)) ato ?_;simp[TD];refine⟨jz (jX v.realm v.forum q ⟨v.file,sign,sign,-1,v.due,v.day⟩),WU v.realm hr v.forum q ⟨v.file,sign,sign,-1,v.due,v.day⟩ hf,WW _⟩
def ld (f:File)(sign:Int)(n:Nat):Bool:=(f.alters.take n).any fun a=>decide (sign<a.at_)
def Ae (f:File):Int:=(f.alters.getD (f.alters.length-1) default).sum
def uC (v:View)(sign:Int):Int×Int:=
 if ld v.file sign v.file.alters.length=false then(0,kR v.file sign v.file.alters.length)
 else if jP v 4 sign=1 then(1,Ae v.file)
 else if jP v 4 sign=2 then(2,min (kR v.file sign v.file.alters.length) (Ae v.file))
 else(jP v 4 sign,kR v.file sign v.file.alters.length)
theorem as2 (v:View)(hr:Right v.realm)(hf:FewS v.file)(sign:Int):aj T 65 [dt v,.int sign] (.tup [.int (uC v sign).1,.int (uC v sign).2]):=by
 refine .of_tree rfl (lA 93 (by kernel_rfl)) atp ?_;simp[TE];have lq:=hf.alters;refine⟨_,aqs v.file sign (by omega),?_⟩;refine aH.forRounds v.file.alters.length (fun k=>[.bool (ld v.file sign k),.int k]) (fun _=>[]) ?_ (fun k hk=>?_) ?_
 ·simp[ld]
 ·have hw:=ba hk (by omega);have hs:ld v.file sign (k+1)=(ld v.file sign k||decide (sign<v.file.alters[k].at_)):=by
   unfold ld;rw[gU hk,List.any_append];simp
  rw[hs];cases ld v.file sign k<;>simp[RM,Ee,hk,hw]
 ·unfold uC;cases ha:ld v.file sign v.file.alters.length
  ·simp[RM,Ee,ha]
  simp[RM,Ee,ha];have zR:0<v.file.alters.length:=by
   rcases Nat.eq_zero_or_pos v.file.alters.length with e|e
   ·simp[ld,agj.mp e] at ha
   ·exact e
  have hw:IntKind.i64.wrap ((v.file.alters.length:Int)-1)=(v.file.alters.length:Int)-1:=aN (by omega);have hn:((v.file.alters.length:Int)-1).toNat=v.file.alters.length-1:=by omega
  have aq:v.file.alters.length-1<v.file.alters.length:=by omega
  have oC:Ae v.file=v.file.alters[v.file.alters.length-1].sum:=by simp[Ae,aq]
  simp[hw,hn,aq];refine⟨by omega,_,S6 v hr hf 4 sign,?_⟩;rw[oC];by_cases h1:jP v 4 sign=1
  ·simp[h1]
  by_cases h2:jP v 4 sign=2
  ·simp[h1,h2];split
   ·rw[Bi (by omega)]
   ·rw[Bh (by omega)]
  ·simp[h1,h2]
@[simp] theorem aCV (a0 a1 a2 a3 a4 a5 a6 x:D):cV [a0,a1,a2,a3,a4,a5,a6] 3 [x]=[a0,a1,a2,x,a4,a5,a6]:=_root_.id rfl
@[simp] theorem aCW (a0 a1 a2 a3 a4 a5 a6 x:D):cV [a0,a1,a2,a3,a4,a5,a6] 4 [x]=[a0,a1,a2,a3,x,a5,a6]:=_root_.id rfl
@[simp] theorem aCX (a0 a1 a2 a3 a4 a5 a6 x:D):cV [a0,a1,a2,a3,a4,a5,a6] 5 [x]=[a0,a1,a2,a3,a4,x,a6]:=_root_.id rfl
def mZ (v:View)(sign:Int):Effect:=
 let s:=v.file.signs.getD sign.toNat default
 ⟨sign,s.kind,s.who,if pj v.file sign v.day=true then 0 else kE [v.form,jP v 1 sign,jP v 2 sign] 1,(uC v sign).1,
    if s.kind=1∨s.kind=4 then min (uC v sign).2 s.sum else(uC v sign).2,decide (s.kind≠1)&&decide (cW .and .i64 s.flags 1=0)⟩
theorem XJ (v:View)(hr:Right v.realm)(hf:FewS v.file)(sign:Int)(h0:0≤sign)(h1:sign<v.file.signs.length):aj T 27 [dt v,.int sign] (jc (mZ v sign)):=by
 refine .of_tree rfl (lA 88 (by kernel_rfl)) atn ?_;obtain⟨k,rfl⟩:=mT h0;have hk:k<v.file.signs.length:=by omega
 have da:=as5 v.file k v.day (by have:=hf.acts;omega);have O7:=as2 v hr hf k;have gK:v.file.signs.getD (k:Int).toNat default=v.file.signs[k]:=by simp[hk]
 have ZG:=S6 v hr hf 1 k;have fg:=S6 v hr hf 2 k;have hj:aj T 30 [.list [.int v.form,.int (jP v 1 k),.int (jP v 2 k)]] (.int (kE [v.form,jP v 1 k,jP v 2 k] 1)):=aab [v.form,jP v 1 k,jP v 2 k] (by simp);have Oo:(if v.file.signs[k].kind=1 then D.bool false else D.bool (decide (cW BinOp.and IntKind.i64 v.file.signs[k].flags 1=0)))=D.bool (decide (v.file.signs[k].kind≠1)&&decide (cW BinOp.and IntKind.i64 v.file.signs[k].flags 1=0)):=by
  by_cases h:v.file.signs[k].kind=1<;>simp[h]
 unfold mZ;rw[gK];generalize jP v 1 k=s1 at*;generalize jP v 2 k=s2 at*;generalize kE [v.form,s1,s2] 1=jj at*;generalize uC v k=tx at*;obtain⟨t1,t2⟩:=tx;simp only at O7;simp[TC,hk,Oo];refine⟨_,da,?_⟩;have rA:∀a b:Int,(if b<a then D.int b else D.int a)=D.int (min a b):=by
  intro a b;split
  ·rw[Bi (by omega)]
  ·rw[Bh (by omega)]
 cases I5:pj v.file k v.day
 ·simp[I5];refine⟨_,ZG,_,fg,_,hj,_,O7,?_⟩;by_cases h1:v.file.signs[k].kind=1∨v.file.signs[k].kind=4
  ·simp[h1,rA];rfl
  ·simp[h1,rA];rfl
 ·simp[I5];refine⟨_,O7,?_⟩;by_cases h1:v.file.signs[k].kind=1∨v.file.signs[k].kind=4
  ·simp[h1,rA];rfl
  ·simp[h1,rA];rfl
def fZ (r:Realm)(forum:Int)(f:File)(day:Int):View:=⟨r,forum,day,bq f day,kS (eG r forum 0 (bq f day) day),kG r forum (bq f day) day⟩
theorem ac3 (r:Realm)(hr:Right r)(hd:RightD r)(forum:Int)(f:File)(day:Int)(hf:FewS f):aj T 26 [aL r,.int forum,cd f,.int day] (dt (fZ r forum f day)):=by
 refine .of_tree rfl (lA 5 (by kernel_rfl)) atm ?_;simp[TB];have hg:=hf.at_ day;refine⟨_,SU f day (by have:=hf.signs;omega) (by have:=hf.acts;omega) (by have:=hf.alters;omega) (by have:=hf.facts;omega),?_⟩;simp;refine⟨_,WV r hr forum 0 _ day hg,_,WW _,_,agl r hr hd forum _ day hg,?_⟩;simp;rfl
@[simp] theorem aCs (x:View)(a0 a1 a2 a3 a4 a5 a6 a7 a8 a9 gV iY gW iZ ja jU jV jW km Bq Br Bs Bt Bu Mb Mc Md Me Mf Mg Mh:D):(cV [a0,a1,a2,a3,a4,a5,a6,a7,a8,a9,gV,iY,gW,iZ,ja,jU,jV,jW,km,Bq,Br,Bs,Bt,Bu,Mb,Mc,Md,Me,Mf,Mg,Mh] 0 [strs x.realm.currencies,mY x.realm.cities,groups x.realm.groups,firms x.realm.firms,orders x.realm.orders,usances x.realm.usances,rates x.realm.rates,halts x.realm.halts,.int x.forum,.int x.day,.int x.file.bill.drawer,.int x.file.bill.drawee,.int x.file.bill.payee,.int x.file.bill.sum,.int x.file.bill.currency,.int x.file.bill.tenor.kind,.int x.file.bill.tenor.n,.int x.file.bill.tenor.unit,.int x.file.bill.day,.int x.file.bill.city,.int x.file.bill.pay,.int x.file.bill.need,.int x.file.bill.rate,.int x.file.bill.flags,.int x.file.bill.parts,signs x.file.signs,alters x.file.alters,acts x.file.acts,facts x.file.facts,.int x.form,.int x.due])[25]?.getD D.none=signs x.file.signs:=_root_.id rfl
def noE:Effect:=⟨0,0,0,0,0,0,false⟩
def oc (r:Realm)(forum:Int)(f:File)(sign day:Int):Effect×Bool:=
 if sign<0∨(fZ r forum f day).file.signs.length≤sign then(noE,false) else(mZ (fZ r forum f day) sign,true)
theorem LM (r:Realm)(hr:Right r)(hd:RightD r)(forum:Int)(f:File)(sign day:Int)(hf:FewS f):aj T 7 [aL r,.int forum,cd f,.int sign,.int day] (.tup [jc (oc r forum f sign day).1,.bool (oc r forum f sign day).2]):=by
 refine .of_tree rfl (lA 4 (by kernel_rfl)) atj ?_;simp[Tx];refine⟨_,ac3 r hr hd forum f day hf,?_⟩;have hg:FewS (fZ r forum f day).file:=hf.at_ day;have rC:(fZ r forum f day).realm=r:=rfl;unfold oc;generalize fZ r forum f day=v at*;simp;by_cases h:sign<0∨(v.file.signs.length:Int)≤sign
 ·simp[h];rfl
 ·simp[h];refine⟨_,XJ v (rC▸hr) hg sign (by omega) (by omega),?_⟩;simp
def l7 (r:Realm)(forum:Int)(f:File)(day:Int):List Effect:=(List.range (fZ r forum f day).file.signs.length).map fun(k:Nat)=>mZ (fZ r forum f day) k
theorem LN (r:Realm)(hr:Right r)(hd:RightD r)(forum:Int)(f:File)(day:Int)(hf:FewS f):aj T 10 [aL r,.int forum,cd f,.int day] (od (l7 r forum f day)):=by
 refine .of_tree rfl (lA 95 (by kernel_rfl)) atk ?_;simp[Tz];refine⟨_,ac3 r hr hd forum f day hf,?_⟩;have hg:FewS (fZ r forum f day).file:=hf.at_ day;have rC:(fZ r forum f day).realm=r:=rfl;unfold l7;generalize fZ r forum f day=v at*;have hl:=hg.signs;refine aH.forRounds v.file.signs.length (fun k=>[.none,.int k]) (fun k=>[od ((List.range k).map fun(k:Nat)=>mZ v k)]) ?_ (fun k hk=>?_) ?_
 ·simp[od]
 ·have hw:=ba hk (by omega);have he:=XJ v (rC▸hr) hg k (by omega) (by omega);rw[L2,px];have mi:((List.range k).map fun(k:Nat)=>mZ v k).length=k:=by simp
  generalize ((List.range k).map fun(k:Nat)=>mZ v k)=A at*;simp[aeh,Kp,hk,hw];exact⟨_,he,by omega,by simp[od]⟩
 ·simp[aeh,Kp]
end Rm
namespace Rm
open Go Go.Proofs Cx
theorem X0 {n:Nat}{f:Nat→Int}(h:kq n f=0)(k:Nat)(hk:k<n):f k=0:=NJ.1 h k hk
theorem Xk {r:Realm}(h:dJ r=0)(k:Nat)(hk:k<r.orders.length):nu r.orders[k]=true:=by
 unfold dJ at h;rw[K4] at h;have h1:=h (ej (eO r) 20 (mH r)) (by simp);unfold ej at h1;split at h1
 ·cases h1
 have h2:=X0 h1 k (by simpa [eO] using hk);have h3:=(zj h2).2;unfold mH at h3;simpa [hk] using h3
theorem akj {r:Realm}(hs:Small r)(h:dJ r=0):uP r:=by
 intro o ho;obtain⟨k,hk,rfl⟩:=jt ho;have h1:=Xk h k hk;obtain⟨hc,_⟩:=hs.order _ ho;refine⟨by omega,fun ch j1=>?_⟩;unfold nu at h1;simp only[ay] at h1;obtain⟨j,hj,rfl⟩:=jt j1;have h2:=uW.1 h1.1 j hj;simpa [aF,hj] using h2
theorem akk {r:Realm}(hs:Small r)(h:dJ r=0):jr r:=by
 refine⟨by have:=hs.halts;omega,fun x hx=>?_⟩;obtain⟨k,hk,rfl⟩:=jt hx;unfold dJ at h;rw[K4] at h;have h1:=h (nK r) (by simp);unfold nK at h1;split at h1
 ·cases h1
 split at h1
 ·cases h1
 split at h1
 ·cases h1
 split at h1
 ·rename_i aW;have h2:=uW.1 aW k hk;simp[tc,wi,aF,hk] at h2;omega
 ·cases h1
structure Good (r:Realm) (f:File):Prop where
 right:Right r
 rightD:RightD r
 few:FewS f
theorem akl {r:Realm}{f:File}(hr:r.OK)(h:zm r f=true):Good r f:=by
 unfold zm re at h;simp only[ay,decide_eq_true_eq] at h;obtain⟨⟨⟨h1,h2⟩,h3⟩,h4⟩:=h;have hs:=NH hr h1;refine⟨⟨akj hs h4,by have:=hs.orders;omega,fun o ho=>?_⟩,⟨hs,akk hs h4⟩,?_⟩
 ·have:=hs.order o ho;refine⟨?_,by omega⟩;exact hr.2.2.2.2.1.2 o ho
 ·simp[Co] at h2;exact⟨by omega,by omega,by omega,by omega⟩
end Rm
namespace Rm
open Go Go.Proofs Cx
end Rm
namespace Rm
open Go Go.Proofs Cx
end Rm
namespace Rm
open Go Go.Proofs Cx
theorem aq2 (f:File)(kind sign:Int)(hl:f.facts.length≤4294967295):aj T 170 [cd f,.int kind,.int sign] (bX (hH f kind sign)):=by
 refine .of_tree rfl (lA 131 (by kernel_rfl)) aur ?_;simp[Uz];refine .scan f.facts.length (fun k=>vq kind sign (f.facts.getD k default)=false) (fun k=>[.int k]) (fun _=>[bX cP]) ?_ (fun k hk hj ho=>?_) (fun k hk hj ho=>?_) (fun hj=>?_)
 ·simp
 ·have hw:=ba hk (by omega);simp[hk,vq] at ho;by_cases h1:f.facts[k].kind=kind<;>by_cases h2:f.facts[k].at_=sign
  ·exact absurd h2 (ho h1)
  all_goals simp[KC,AQ,hk,hw,h1,h2]
 ·have hf:hH f kind sign=eE (decide (f.facts[k].n≠0)):=by
   unfold hH;rw[ot hk (by simpa [hk] using ho) (fun j bm=>by have:=hj j bm;simpa [show j<f.facts.length by omega] using this)]
  simp[hk,vq] at ho;by_cases hn:f.facts[k].n=0
  ·simp[KC,AQ,hk,ho,hf,hn];rfl
  ·simp[KC,AQ,hk,ho,hf,hn];rfl
 ·have hf:hH f kind sign=cP:=by
   unfold hH;rw[pI (fun j bm=>by have:=hj j bm;simpa [bm] using this)]
  simp[KC,AQ,hf]
@[simp] theorem aCU (a0 a1 a2 a3 a4 a5 a6 a7 a8 a9 gV iY gW iZ ja jU jV jW km x:D):cV [a0,a1,a2,a3,a4,a5,a6,a7,a8,a9,gV,iY,gW,iZ,ja,jU,jV,jW,km] 18 [x]=[a0,a1,a2,a3,a4,a5,a6,a7,a8,a9,gV,iY,gW,iZ,ja,jU,jV,jW,x]:=_root_.id rfl
@[simp] theorem aCl:D.none.cells=[D.none]:=_root_.id rfl
end Rm
namespace Rm
open Go Go.Proofs Cx
end Rm
namespace Rm
open Go Cx
end Rm
namespace Rm
open Go Go.Proofs Cx
def ae2 (a b:Int):Prop:=a=2∨a=b
end Rm
namespace Rm
open Go Go.Proofs Cx
end Rm
namespace Rm
open Go Go.Proofs Cx
@[simp] theorem aCk:D.none.b=false:=_root_.id rfl
end Rm
namespace Rm
open Go Go.Proofs Cx
end Rm
namespace Rm
open Go Go.Proofs Cx
end Rm
namespace Rm
open Go Go.Proofs Cx
def WQ (x y:Fact):Prop:=x.at_<y.at_∨(x.at_=y.at_∧x.kind<y.kind)
instance (x y:Fact):Decidable (WQ x y):=by unfold WQ;infer_instance
end Rm
namespace Rm
open Go Go.Proofs Cx
end Rm
namespace Rm
open Go Go.Proofs Cx
end Rm
namespace Rm
open Go Go.Proofs Cx
theorem V0 {α:Type}(key:α→Int){x y:Int}(v5:x≤y):∀(l:List α),(l.takeWhile (fun a=>decide (key a≤y))).takeWhile (fun a=>decide (key a≤x))=l.takeWhile (fun a=>decide (key a≤x))
 |[]=>rfl
 |a::l=>by
  by_cases h:key a≤x
  ·have h2:key a≤y:=by omega
   simp only[FN,h,h2,decide_true,if_true];rw[V0 key v5 l]
  ·by_cases h2:key a≤y
   ·simp[FN,h,h2]
   ·simp[FN,h,h2]
theorem afj {α:Type}(key:α→Int){x y:Int}(v5:x≤y):∀(l:List α),(l.takeWhile (fun a=>decide (key a≤x))).length≤(l.takeWhile (fun a=>decide (key a≤y))).length
 |[]=>by simp
 |a::l=>by
  by_cases h:key a≤x
  ·have h2:key a≤y:=by omega
   have:=afj key v5 l;simp[FN,h,h2];omega
  ·simp[FN,h]
theorem Mn (f:File){x y:Int}(v5:x≤y):bq (bq f y) x=bq f x:=by
 have h1:qx x (qx y f.signs)=qx x f.signs:=V0 (fun a:Sign=>a.day) v5 f.signs;have h2:A7 x (A7 y f.acts)=A7 x f.acts:=V0 (fun a:Act=>a.day) v5 f.acts;have hl:(qx x f.signs).length≤(qx y f.signs).length:=afj (fun a:Sign=>a.day) v5 f.signs;unfold bq;simp only[h1,h2,List.filter_filter]
 congr 1
 ·apply List.filter_congr;intro a _;simp[gY];omega
 ·apply List.filter_congr;intro a _;simp[iw,aF];omega
where
 apu:∀(l:List Int) (b:Int),ns (b::l)≤b
 |[],b=>by simp[ns]
 |c::l,b=>by
  have e:ns (b::c::l)=ns (min b c::l):=by simp[ns]
  rw[e];have:=apu l (min b c);omega
end Rm
namespace Rm
open Go Go.Proofs Cx
def sB (fr to:Int)(u:Usance):Bool:=decide (u.fr=fr)&&decide (u.to=to)
def kU (l:List Usance)(fr to:Int):Int×Int:=match l.find? (sB fr to) with|some u=>(u.days,0)|none=>(0,4)
theorem agr (r:Realm)(fr to:Int)(hl:r.usances.length≤100000):aj T 83 [aL r,.int fr,.int to] (.tup [.int (kU r.usances fr to).1,.int (kU r.usances fr to).2]):=by
 refine .of_tree rfl W0 afe ?_;simp[Lx];unfold kU;refine aH.scan r.usances.length (fun k=>sB fr to (r.usances.getD k default)=false) (fun k=>[.int 0,.int 0,.int k]) (fun _=>[]) ?_ (fun k hk hj az=>?_) (fun k hk hj az=>?_) (fun hj=>?_)
 ·simp
 ·have hw:=ba hk (by omega);have hn:¬(r.usances[k].fr=fr∧r.usances[k].to=to):=by simpa [sB,hk] using az
  simp[AR,uj,hk,hw,hn]
 ·have dK:=ot hk (by simpa [hk] using az) (fun j bm=>by have:=hj j bm;simpa [show j<r.usances.length by omega] using this);have hc:r.usances[k].fr=fr∧r.usances[k].to=to:=by simpa [sB,hk] using az
  rw[dK];simp[AR,uj,hk,hc]
 ·have dK:=pI (l:=r.usances) (p:=sB fr to) (fun j bm=>by have:=hj j bm;simpa [bm] using this);rw[dK];simp[AR,uj]
def sO (d:Int)(t:Tenor):Int×Int:=((Bw d t).choose,(Bw d t).choose_spec.choose)
theorem Mi (d:Int)(t:Tenor):aj T 124 [.int d,jA t] (.tup [.int (sO d t).1,.int (sO d t).2]):=(Bw d t).choose_spec.choose_spec
def jy (l:List Usance)(b:Bill)(seen:Int):Int×Int:=
 if b.tenor.kind=0 then(seen,0) else if b.tenor.kind=1 then sO seen b.tenor else if b.tenor.kind=2 then sO b.day b.tenor
 else if b.tenor.kind=4 then(IntKind.i64.wrap (b.day+(kU l b.city b.pay).1),(kU l b.city b.pay).2) else(b.tenor.n,0)
theorem agO (r:Realm)(hr:RightD r)(b:Bill)(seen:Int):aj T 78 [aL r,dr b,.int seen] (.tup [.int (jy r.usances b seen).1,.int (jy r.usances b seen).2]):=by
 have I8:D.agg [D.int b.tenor.kind,D.int b.tenor.n,D.int b.tenor.unit]=jA b.tenor:=rfl;refine .of_tree rfl uZ xn ?_;unfold jy;by_cases h0:b.tenor.kind=0
 ·simp[mQ,h0]
 by_cases h1:b.tenor.kind=1
 ·have h:=Mi seen b.tenor;have cr:(b.tenor.kind=1)=True:=eq_true h1;simp[mQ,h0,cr];exact⟨_,h,by simp⟩
 by_cases h2:b.tenor.kind=2
 ·have h:=Mi b.day b.tenor;have gF:(b.tenor.kind=2)=True:=eq_true h2;simp[mQ,h0,h1,gF];exact⟨_,h,by simp⟩
 by_cases h4:b.tenor.kind=4
 ·have h:=agr r b.city b.pay (by have:=hr.small.us;omega);have m5:(b.tenor.kind=4)=True:=eq_true h4;simp[mQ,h0,h1,h2,m5];exact⟨_,h,by simp⟩
 ·simp[mQ,h0,h1,h2,h4]
def Af (r:Realm)(pay bA:Int)(x:Int×Int):Int×Int:=
 if x.2≠0 then(0,x.2) else if bx x.1=false∨100000<IntKind.i64.wrap (x.1+bA) then(0,3) else qq r pay (IntKind.i64.wrap (x.1+bA))
def qY (r:Realm)(b:Bill)(seen bA:Int):Int×Int:=
 if dJ r≠0∨aF b.city r.cities.length=false∨aF b.pay r.cities.length=false∨bx b.day=false then(0,1)
 else if((b.tenor.kind<0∨5≤b.tenor.kind)∨b.tenor.unit<0)∨2≤b.tenor.unit then(0,1)
 else if((¬seen=-1∧bx seen=false)∨bA<0)∨20000<bA then(0,1)
 else if su b.tenor=true∧seen=-1 then(0,4)
 else Af r b.pay bA (jy r.usances b seen)
theorem af6 (r:Realm)(hr:RightD r)(b:Bill)(seen bA:Int):aj T 36 [aL r,dr b,.int seen,.int bA] (.tup [.int (qY r b seen bA).1,.int (qY r b seen bA).2]):=by
 have I8:D.agg [D.int b.tenor.kind,D.int b.tenor.n,D.int b.tenor.unit]=jA b.tenor:=rfl;have gG:=SS r hr.small;obtain⟨G,hG⟩:∃G,G=qY r b seen bA:=⟨_,rfl⟩
 rw[←hG];unfold qY at hG;refine .of_tree rfl Mp VG ?_;simp[Fz];refine⟨_,gG,?_⟩;by_cases h0:dJ r=0
 case neg=>simp[h0] at hG ⊢;simp[hG]
 simp[h0] at hG ⊢;refine⟨_,Dp r b.city,?_⟩;cases h1:aF b.city r.cities.length
 ·simp[h1] at hG ⊢;simp[hG]
 simp[h1] at hG ⊢;refine⟨_,Dp r b.pay,?_⟩;cases h2:aF b.pay r.cities.length
 ·simp[h2] at hG ⊢;simp[hG]
 simp[h2] at hG ⊢;refine⟨_,tN b.day,?_⟩;cases h3:bx b.day
 ·simp[h3] at hG ⊢;simp[hG]
 simp[h3] at hG ⊢;have hp:0≤b.pay∧b.pay<r.cities.length:=by simpa [aF] using h2
 by_cases h4:((b.tenor.kind<0∨5≤b.tenor.kind)∨b.tenor.unit<0)∨2≤b.tenor.unit
 ·rw[if_pos h4] at hG ⊢;simp[hG]
 rw[if_neg h4] at hG ⊢;have fin:G=Af r b.pay bA (jy r.usances b seen)→0≤bA→bA≤20000→∃d,aj T 78 [aL r,dr b,D.int seen] d∧
  if(d.tget 1).i=0 then ∃d1,aj T 76 [d.tget 0] d1∧(if d1.b=false∨100000<IntKind.i64.wrap ((d.tget 0).i+bA) then 0=G.1∧3=G.2 else
        ∃d2,aj T 79 [aL r,D.int b.pay,D.int (IntKind.i64.wrap ((d.tget 0).i+bA))] d2∧d2.tget 0=D.int G.1∧d2.tget 1=D.int G.2)
  else 0=G.1∧d.tget 1=D.int G.2:=by
  intro hG rn oB;refine⟨_,agO r hr b seen,?_⟩;unfold Af at hG;generalize jy r.usances b seen=B at*;obtain⟨n,e⟩:=B;by_cases he:e=0
  ·simp[he] at hG ⊢;refine⟨_,tN n,?_⟩;cases hd:bx n
   ·simp[hd] at hG ⊢;simp[hG]
   have eJ:0≤n∧n≤100000:=by simpa [bx] using hd
   have hw:IntKind.i64.wrap (n+bA)=n+bA:=aN (by omega);simp[hd,hw] at hG ⊢;by_cases hle:100000<n+bA
   ·rw[if_pos hle] at hG ⊢;simp[hG]
   ·rw[if_neg hle] at hG ⊢;refine⟨_,Ta r hr.halts b.pay (n+bA) hp hr.cities (by omega) (by omega),?_⟩;simp[hG]
  ·simp[he] at hG ⊢;simp[hG]
 by_cases hs:seen=-1
 ·simp[hs] at fin hG ⊢;by_cases h5:bA<0∨20000<bA
  ·rw[if_pos h5] at hG ⊢;simp[hG]
  rw[if_neg h5] at hG ⊢;refine⟨_,Bp b.tenor,?_⟩;cases h6:su b.tenor
  ·simp[h6] at hG ⊢;exact fin hG (by omega) (by omega)
  ·simp[h6] at hG ⊢;simp[hG]
 ·simp[hs] at fin hG ⊢;refine⟨_,tN seen,?_⟩;cases hk:bx seen
  ·simp[hk] at hG ⊢;simp[hG]
  simp[hk] at hG ⊢;by_cases h5:bA<0∨20000<bA
  ·rw[if_pos h5] at hG ⊢;simp[hG]
  rw[if_neg h5] at hG ⊢;exact⟨⟨_,Bp b.tenor⟩,fin hG (by omega) (by omega)⟩
theorem ahP {r:Realm}(hr:RightD r)(b:Bill)(seen bA:Int):pD r b seen bA=qY r b seen bA:=by
 have h:=(LL r hr b seen bA).det (af6 r hr b seen bA);simp at h;exact Prod.ext h.1 h.2
end Rm
namespace Rm
open Go Go.Proofs Cx
end Rm
namespace Rm
open Go Go.Proofs Cx
end Rm
namespace Rm
open Go Go.Proofs Cx
end Rm
namespace Rm
open Go Go.Proofs Cx
end Rm
namespace Rm
open Go Go.Proofs Cx
end Rm
namespace Rm
open Go Go.Proofs Cx
instance (a b:Int):Decidable (ae2 a b):=by unfold ae2;infer_instance
end Rm
namespace Rm
open Go Go.Proofs Cx
theorem agI (f:File)(x:Int):bq {f with facts:=[]} x={bq f x with facts:=[]}:=rfl
end Rm
namespace Rm
open Go Go.Proofs Cx
theorem D7 (f:File)(day:Int)(h1:f.signs.length≤4294967295)(h2:f.acts.length≤4294967295)(h3:f.alters.length≤4294967295)(h4:f.facts.length≤4294967295):aj T 28 [cd f,.int day] (cd (bq f day)):=by
 refine .of_tree rfl (lA 120 (by kernel_rfl)) auq ?_;simp[Uy];obtain⟨m,hm,hS,zp,pJ⟩:=xp (fun s:Sign=>decide (s.day≤day)) f.signs;obtain⟨n,hn,hA,NR,NS⟩:=xp (fun s:Act=>decide (s.day≤day)) f.acts;refine aH.forRounds m (fun k=>[.int k]) (fun k=>[]) ?_ (fun k hk=>?_) ?_
 ·simp
 ·have br:k<f.signs.length:=by omega
  have hw:=ba br (by omega);have hd:=zp k br hk;simp at hd;have eJ:¬day<f.signs[k].day:=by omega
  simp[R9,EB,br,hw,eJ]
 have oD:(f.signs.take m).length=m:=by simp;omega
 have OG:(f.acts.take n).length=n:=by simp;omega
 have NT:bq f day=⟨f.bill,f.signs.take m,f.alters.filter (gY m),f.acts.take n,f.facts.filter (iw m)⟩:=by
  unfold bq qx A7;rw[hS,hA,oD]
 rw[NT];by_cases cA:m<f.signs.length
 case' pos=>
  have hd:=pJ cA;simp at hd;simp[R9,EB,cA,hd];generalize D.bool true=bb
 case' neg=>
  simp[R9,EB,cA];generalize D.bool false=bb
 all_goals
  refine aH.forRounds n (fun k=>[.int k]) (fun k=>[]) ?_ (fun k hk=>?_) ?_
  ·simp
  ·have br:k<f.acts.length:=by omega
   have hw:=ba br (by omega);have hd:=NR k br hk;simp at hd;have eJ:¬day<f.acts[k].day:=by omega
   simp[Sa,EC,br,hw,eJ]
  by_cases iz:n<f.acts.length
  case' pos=>
   have hd:=NS iz;simp at hd;simp[Sa,EC,iz,hd];generalize D.bool true=bc
  case' neg=>
   simp[Sa,EC,iz];generalize D.bool false=bc
  all_goals
   refine⟨by omega,by omega,by omega,by omega,?_⟩;refine aH.forRounds f.alters.length (fun k=>[.int k]) (fun k=>[lb f.bill (signs (f.signs.take m)) (kC ((f.alters.take k).filter (gY m))) (acts (f.acts.take n)) (.list []),alters ((f.alters.take k).filter (gY m))]) ?_ (fun k hk=>?_) ?_
   ·simp[alters,signs,acts,lb]
    try rfl
   ·have hw:=ba hk (by omega);have ht:=uz (gY m) f.alters hk;rw[ht];have hlen:((f.alters.take k).filter (gY m)).length≤k:=jv (qJ _ _) (by simp;omega);generalize (f.alters.take k).filter (gY m)=B at*;by_cases hd:f.alters[k].at_≤(m:Int)
    ·simp[Sb,ED,gY,hk,hw,hd];exact⟨by omega,by simp[alters,lb,Zt]<;>rfl⟩
    ·simp[Sb,ED,gY,hk,hw,hd]
   simp[Sb,ED];generalize f.alters.filter (gY m)=B at*;refine aH.forRounds f.facts.length (fun k=>[.int k]) (fun k=>[lb f.bill (signs (f.signs.take m)) (kC B) (acts (f.acts.take n)) (kC ((f.facts.take k).filter (iw m))),facts ((f.facts.take k).filter (iw m))]) ?_ (fun k hk=>?_) ?_
   ·simp[facts]
   ·have hw:=ba hk (by omega);have ht:=uz (iw m) f.facts hk;rw[ht];have hlen:((f.facts.take k).filter (iw m)).length≤k:=jv (qJ _ _) (by simp;omega);generalize (f.facts.take k).filter (iw m)=C at*;by_cases bB:0≤f.facts[k].at_
    ·by_cases dC:f.facts[k].at_<(m:Int)
     ·simp[KB,AP,iw,aF,hk,hw,bB,dC];exact⟨by omega,by simp[facts,lb,Zt]<;>rfl⟩
     ·simp[KB,AP,iw,aF,hk,hw,bB,dC]
    ·simp[KB,AP,iw,aF,hk,hw,bB]
   simp[KB,AP]
   try rfl
end Rm
namespace Rm
open Go Go.Proofs Cx
theorem apJ (x i:Nat):x&&& 2^i=if x.testBit i then 2^i else 0:=by
 apply Nat.eq_of_testBit_eq;intro j;rw[Nat.testBit_and,Nat.testBit_two_pow];by_cases h:i=j
 ·subst h;cases x.testBit i<;>simp
 ·cases x.testBit i<;>simp[h]
theorem Mk (n:Int)(i:Nat)(hi:i<3):cW .and .i64 n ((2^i:Nat):Int)=0∨cW .and .i64 n ((2^i:Nat):Int)=((2^i:Nat):Int):=by
 have hp:i=0∨i=1∨i=2:=by omega
 have h2:(BitVec.ofInt 64 ((2^i:Nat):Int)).toNat=2^i:=by
  rcases hp with rfl|rfl|rfl<;>rfl
 have h1:(BitVec.ofInt 64 n&&& BitVec.ofInt 64 ((2^i:Nat):Int)).toNat=if(BitVec.ofInt 64 n).toNat.testBit i then 2^i else 0:=by
  rw[BitVec.toNat_and,h2,apJ]
 have h3:cW .and .i64 n ((2^i:Nat):Int)=IntKind.i64.wrap (((BitVec.ofInt 64 n&&& BitVec.ofInt 64 ((2^i:Nat):Int)).toNat:Nat):Int):=rfl;rw[h3,h1];cases(BitVec.ofInt 64 n).toNat.testBit i with
 |false=>left;rfl
 |true=>
  right;rcases hp with rfl|rfl|rfl<;>rfl
theorem ai1 (n k:Int)(hk:k=1∨k=2∨k=4):decide (cW .and .i64 n k=k)=sY n k:=by
 unfold sY;have h:cW .and .i64 n k=0∨cW .and .i64 n k=k:=by
  rcases hk with rfl|rfl|rfl
  ·exact Mk n 0 (by omega)
  ·exact Mk n 1 (by omega)
  ·exact Mk n 2 (by omega)
 have fU:k≠0:=by omega
 rcases h with h|h<;>rw[h]<;>simp[fU];omega
theorem rY (n:Int):aj T 167 [.int n] (bX ⟨true,n⟩):=by
 refine .of_tree rfl (lA 127 (by kernel_rfl)) auy ?_;simp[UD]
 try rfl
theorem ue (b:Bool):aj T 168 [.bool b] (bX (eE b)):=by
 refine .of_tree rfl (lA 128 (by kernel_rfl)) auz ?_;cases b
 ·simp[Ls];refine⟨_,rY 0,?_⟩;simp;rfl
 ·simp[Ls];refine⟨_,rY 1,?_⟩;simp;rfl
theorem Kj (n k:Int)(hk:k=1∨k=2∨k=4):aj T 169 [.int n,.int k] (.bool (sY n k)):=by
 rw[←ai1 n k hk];refine .of_tree rfl (lA 129 (by kernel_rfl)) auw ?_;simp[UC]
theorem Ki (r:Realm)(c:Int)(hl:r.cities.length≤100000):aj T 138 [aL r,.int c] (.int (cC r c)):=by
 have hw:IntKind.i64.wrap ((r.cities.length:Int)-1)=(r.cities.length:Int)-1:=aN (by omega);refine .of_tree rfl (lA 130 (by kernel_rfl)) at5 ?_;simp[Uh,cC,hw];refine⟨_,cm c 0 _,?_⟩;have he:wi c 0 ((r.cities.length:Int)-1)=aF c r.cities.length:=by
  rw[qD];simp[wi,aF];omega
 rw[he];cases h:aF c r.cities.length
 ·simp[h]
 ·simp[aF] at h;have h1:c.toNat<r.cities.length:=by omega
  simp[h,h1]
def afl (b:Nat→PC):PT:=
 (.call ⟨[],[(7,(.setn o7 (pi 18) 0 (.r 210)))]⟩ [] 215 170 [(ar 19 o5),(pi 4),bK] (.chk (ao o7 (pi 19)) (.ret (.setn o7 (pi 19) 0 (.r 215)))))
def afw (b:Nat→PC):PT:=
 (.call ⟨[],[(7,(.setn o7 (pi 17) 0 (.r 205)))]⟩ [] 210 170 [(ar 19 o5),(pi 3),bK] (.chk (ao o7 (pi 18)) (afl b)))
def afE (b:Nat→PC):PT:=
 (.call ⟨[],[(7,(.setn o7 (pi 16) 0 (.r 199)))]⟩ [] 205 170 [(ar 19 o5),(pi 2),(pc o3 19)] (.chk (ao o7 (pi 17)) (afw b)))
def afF (b:Nat→PC):PT:=
 (.call ⟨[],[(7,(.setn o7 (pi 15) 0 (.r 193)))]⟩ [] 199 170 [(ar 19 o5),(pi 1),(pc o3 19)] (.chk (ao o7 (pi 16)) (afE b)))
def afG (b:Nat→PC):PT:=
 (.call ⟨[(11,(.mx (pc o3 20) (pi 0)))],[(7,(.setn o7 (pi 13) 0 (.r 184)))]⟩ [] 193 170 [(ar 19 o5),(pi 0),(pc o3 19)] (.chk (ao o7 (pi 15)) (afF b)))
def afH (b:Nat→PC):PT:=
 (.call ⟨[],[]⟩ [] 184 168 [(.r 183)] (.chk (ao o7 (pi 13)) (afG b)))
def afI (b:Nat→PC):PT:=
 (.call ⟨[],[(7,(.setn o7 (pi 12) 0 (.r 178)))]⟩ [] 183 169 [(pc o6 8),(pi 1)] (afH b))
def afJ (b:Nat→PC):PT:=
 (.call ⟨[],[]⟩ [] 178 168 [r9] (.chk (ao o7 (pi 12)) (afI b)))
def afK (b:Nat→PC):PT:=
 (.call ⟨[],[]⟩ [] 155 168 [(aP (.r 148) (.r 153))] (.chk (ao o7 (pi 11)) (.brk ⟨[(10,(pi 0)),(9,pF)],[(7,(.setn o7 (pi 11) 0 (.r 155)))]⟩ (aav b) (afJ b))))
def afm (b:Nat→PC):PT:=
 (.call ⟨[],[]⟩ [] 153 138 [(ar 8 o2),(pc o5 10)] (afK b))
def afn (b:Nat→PC):PT:=
 (.call ⟨[],[(7,(.setn o7 (pi 8) 0 (.r 141)))]⟩ [] 148 138 [(ar 8 o2),(pc o5 9)] (afm b))
def afo (b:Nat→PC):PT:=
 (.call ⟨[],[(7,(.setn o7 (pi 9) 0 (.r 134)))]⟩ [] 141 168 [(ak (pc o5 2) (pi (-1)))] (.chk (ao o7 (pi 8)) (afn b)))
def afp (b:Nat→PC):PT:=
 (.call ⟨[],[]⟩ [] 134 168 [(.r 133)] (.chk (ao o7 (pi 9)) (afo b)))
def afq (b:Nat→PC):PT:=
 (.call ⟨[],[(7,(.setn o7 (pi 10) 0 adW))]⟩ [] 133 169 [(pc o5 13),(pi 4)] (afp b))
def afr (b:Nat→PC):PT:=
 (.call ⟨[],[]⟩ [] 127 168 [adV] (.chk (ao o7 (pi 10)) (afq b)))
def afs (b:Nat→PC):PT:=
 (.call ⟨[],[(7,(.setn o7 (pi 7) 0 adU))]⟩ [] 126 169 [(pc o5 13),(pi 2)] (afr b))
def aft (b:Nat→PC):PT:=
 (.call ⟨[],[]⟩ [] 120 168 [adS] (.chk (ao o7 (pi 7)) (afs b)))
def afu (b:Nat→PC):PT:=
 (.call ⟨[],[(7,(.setn o7 (pi 14) 0 adR))]⟩ [] 119 169 [(pc o5 13),(pi 1)] (aft b))
def afv (b:Nat→PC):PT:=
 (.call ⟨[],[(7,(.setn o7 (pi 6) 0 D5))]⟩ [] 113 168 [(bj r8 (pi 0))] (.chk (ao o7 (pi 14)) (afu b)))
def afx (b:Nat→PC):PT:=
 (.call ⟨[(8,(.pick (aP (pc o3 22) (pi (-1))) (aY (pc o6 6) (pc o3 22)) (pi 0)))],[(7,(.setn o7 (pi 5) 0 r96))]⟩ [] 108 167 [(.pick (aP (pc o3 22) (pi (-1))) (aY (pc o6 6) (pc o3 22)) (pi 0))] (.chk (ao o7 (pi 6)) (afv b)))
def afy (b:Nat→PC):PT:=
 (.call ⟨[],[(7,(.setn o7 (pi 4) 0 r91))]⟩ [] 96 167 [(pc o3 21)] (.chk (ao o7 (pi 5)) (afx b)))
def afz (b:Nat→PC):PT:=
 (.call ⟨[],[(7,(.setn o7 (pi 3) 0 RH))]⟩ [] 91 167 [(pc o6 0)] (.chk (ao o7 (pi 4)) (afy b)))
def afA (b:Nat→PC):PT:=
 (.call ⟨[],[(7,(.setn o7 (pi 2) 0 ui))]⟩ [] 86 167 [(pc o5 12)] (.chk (ao o7 (pi 3)) (afz b)))
def afB (b:Nat→PC):PT:=
 (.call ⟨[],[(7,(.setn o7 (pi 1) 0 ql))]⟩ [] 80 167 [(pc o5 5)] (.chk (ao o7 (pi 2)) (afA b)))
def afC (b:Nat→PC):PT:=
 (.call ⟨[],[(7,(.setn o7 (pi 0) 0 qj))]⟩ [] 73 167 [(pc o5 14)] (.chk (ao o7 (pi 1)) (afB b)))
def afD (b:Nat→PC):PT:=
 (.call ⟨[],[(7,(.rep (pi 20) (.con (.agg [(.bool false),(.int 0)])))),(6,(.setc z9 0 (pn (pc (.setc (.con (.agg [(.int 0),(.int 0),(.int 0),(.int 0),(.int 0),(.int 0),(.int 0),(.int 0),(.int 0),(.int 0),(.int 0),(.int 0),(.int 0),(.int 0),(.int 0),(.list []),(.list []),(.list []),(.list [])])) 0 (ar 19 (.mk [r1]))) 15) (pc (.mk [r1]) 19)))),(5,(.setc (.con (.agg [(.int 0),(.int 0),(.int 0),(.int 0),(.int 0),(.int 0),(.int 0),(.int 0),(.int 0),(.int 0),(.int 0),(.int 0),(.int 0),(.int 0),(.int 0),(.list []),(.list []),(.list []),(.list [])])) 0 (ar 19 (.mk [r1])))),(3,(.mk [r1])),(2,(.mk [r0]))]⟩ [] 67 167 [(pc (.setc (.con (.agg [(.int 0),(.int 0),(.int 0),(.int 0),(.int 0),(.int 0),(.int 0),(.int 0),(.int 0),(.int 0),(.int 0),(.int 0),(.int 0),(.int 0),(.int 0),(.list []),(.list []),(.list []),(.list [])])) 0 (ar 19 (.mk [r1]))) 3)] (.chk (ao o7 (pi 0)) (afC b)))
def afk (b:Nat→PC):PT:=
 (.ite (.pick (.pick (.pick (.pick (.pick (ah (pc (.mk [r1]) 19) (pi 0)) pT (bN (pc (.mk [r1]) 19) (.llen (pc (.setc (.con (.agg [(.int 0),(.int 0),(.int 0),(.int 0),(.int 0),(.int 0),(.int 0),(.int 0),(.int 0),(.int 0),(.int 0),(.int 0),(.int 0),(.int 0),(.int 0),(.list []),(.list []),(.list []),(.list [])])) 0 (ar 19 (.mk [r1]))) 15)))) pT (ah (pc (.mk [r1]) 20) (pi (-1)))) pT (bN (pc (.mk [r1]) 20) (.llen (pc (.setc (.con (.agg [(.int 0),(.int 0),(.int 0),(.int 0),(.int 0),(.int 0),(.int 0),(.int 0),(.int 0),(.int 0),(.int 0),(.int 0),(.int 0),(.int 0),(.int 0),(.list []),(.list []),(.list []),(.list [])])) 0 (ar 19 (.mk [r1]))) 15)))) pT (ah (pc (.mk [r1]) 22) (pi (-1)))) pT (bj (pc (.mk [r1]) 22) (pi 100000))) (.ret pL) (.chk (ao (pc (.setc (.con (.agg [(.int 0),(.int 0),(.int 0),(.int 0),(.int 0),(.int 0),(.int 0),(.int 0),(.int 0),(.int 0),(.int 0),(.int 0),(.int 0),(.int 0),(.int 0),(.list []),(.list []),(.list []),(.list [])])) 0 (ar 19 (.mk [r1]))) 15) (pc (.mk [r1]) 19)) (.ite (.pick (ah (pc (.setc z9 0 (pn (pc (.setc (.con (.agg [(.int 0),(.int 0),(.int 0),(.int 0),(.int 0),(.int 0),(.int 0),(.int 0),(.int 0),(.int 0),(.int 0),(.int 0),(.int 0),(.int 0),(.int 0),(.list []),(.list []),(.list []),(.list [])])) 0 (ar 19 (.mk [r1]))) 15) (pc (.mk [r1]) 19))) 6) (pi 0)) pT (bj (pc (.setc z9 0 (pn (pc (.setc (.con (.agg [(.int 0),(.int 0),(.int 0),(.int 0),(.int 0),(.int 0),(.int 0),(.int 0),(.int 0),(.int 0),(.int 0),(.int 0),(.int 0),(.int 0),(.int 0),(.list []),(.list []),(.list []),(.list [])])) 0 (ar 19 (.mk [r1]))) 15) (pc (.mk [r1]) 19))) 6) (pi 100000))) (.ret pL) (.chk (.an (bN (pi 20) (pi 0)) (aX (pi 20) (pi 4294967296))) (.chk (ak (pi 20) (pi 20)) (afD b))))))
theorem auu (b:Nat→PC):UB b=afk b:=rfl
theorem aq5 (r:Realm)(hr:r.cities.length≤100000)(c:Case)(h2:c.file.facts.length≤100000)(h3:c.file.alters.length≤100000):aj T 145 [aL r,ei c] (cells (dH r c)):=by
 refine .of_tree rfl (lA 126 (by kernel_rfl)) auv ?_;rw[auu];simp[afk];by_cases hb:((((c.sign<0∨(c.file.signs.length:Int)≤c.sign)∨c.holder< -1)∨(c.file.signs.length:Int)≤c.holder)∨c.due< -1)∨100000<c.due
 ·rw[if_pos hb];have hc:lZ c=false:=by
   cases e:lZ c with
   |false=>rfl
   |true=>
    exfalso;unfold lZ kB aF at e;simp only[ay,kV,decide_eq_true_eq] at e;split at e<;>omega
  have hv:dH r c=[]:=by unfold dH;rw[hc];simp
  rw[hv];rfl
 rw[if_neg hb];have hc:lZ c=true:=by
  unfold lZ kB aF;simp only[ay,kV,decide_eq_true_eq];split<;>omega
 have hlen:c.sign.toNat<c.file.signs.length:=by omega
 obtain⟨s,cX⟩:∃s:Sign,s=c.file.signs[c.sign.toNat]:=⟨_,rfl⟩
 have gK:c.file.signs.getD c.sign.toNat default=s:=by rw[cX];simp[hlen]
 have hv:dH r c=if aF s.day 100001=true then zk r c s else[]:=by
  unfold dH;rw[gK,hc];simp
 rw[hv];simp[hlen,←cX];refine⟨by omega,?_⟩;by_cases hd:s.day<0∨100000<s.day
 ·rw[if_pos hd,if_neg (by simp[aF];omega)];rfl
 rw[if_neg hd,if_pos (by simp[aF];omega)];have zE:(if c.due=-1 then D.int 0 else D.int (IntKind.i64.wrap (s.day-c.due)))=D.int (tP s c.due):=by
  unfold tP;by_cases h:c.due=-1
  ·simp[h]
  ·rw[if_neg h,if_neg h,aN (by omega)]
 simp[afD];refine⟨_,rY _,?_⟩;simp[afC,hlen,←cX];refine⟨_,rY _,?_⟩;simp[afB,hlen,←cX];refine⟨_,rY _,?_⟩;simp[afA,hlen,←cX];refine⟨_,rY _,?_⟩;simp[afz,hlen,←cX];refine⟨_,rY _,?_⟩;simp[afy,hlen,←cX];refine⟨_,rY _,?_⟩;simp[afx,hlen,←cX,zE];refine⟨_,rY _,?_⟩;simp[afv,hlen,←cX,zE];refine⟨_,ue _,?_⟩;simp[afu,hlen,←cX];refine⟨_,Kj _ _ (by omega),?_⟩;simp[aft,hlen,←cX];refine⟨_,ue _,?_⟩;simp[afs,hlen,←cX];refine⟨_,Kj _ _ (by omega),?_⟩;simp[afr,hlen,←cX];refine⟨_,ue _,?_⟩;simp[afq,hlen,←cX];refine⟨_,Kj _ _ (by omega),?_⟩;simp[afp,hlen,←cX];refine⟨_,ue _,?_⟩;simp[afo,hlen,←cX];refine⟨_,ue _,?_⟩;simp[afn,hlen,←cX];refine⟨_,Ki r _ hr,?_⟩;simp[afm,hlen,←cX];refine⟨_,Ki r _ hr,?_⟩;simp[afK,hlen,←cX];refine⟨_,ue _,?_⟩;refine aH.forRounds c.file.alters.length (fun k=>[.bool ((List.range k).any fun j=>decide ((c.file.alters.getD j default).at_≤c.sign)),.int k]) (fun _=>[]) ?_ (fun k hk=>?_) ?_
 ·simp
 ·have hw:=ba hk (by omega)
  have e:(List.range (k+1)).any (fun j=>decide ((c.file.alters.getD j default).at_≤c.sign))=((List.range k).any (fun j=>decide ((c.file.alters.getD j default).at_≤c.sign))||decide (c.file.alters[k].at_≤c.sign)):=by
   rw[L2,List.any_append];simp[hk]
  rw[e];generalize (List.range k).any (fun j=>decide ((c.file.alters.getD j default).at_≤c.sign))=b;cases b<;>simp[aep,KD,hk,hw]
 have halt:(List.range c.file.alters.length).any (fun j=>decide ((c.file.alters.getD j default).at_≤c.sign))=Mj c.file c.sign:=rfl;rw[halt];have hF:=fun k at_=>aq2 c.file k at_ (by omega);have vG:(if c.holder<0 then D.int 0 else D.int c.holder)=D.int (kB c):=by unfold kB;split<;>rfl
 simp[aep,KD];simp[afJ,hlen,←cX];refine⟨_,ue _,?_⟩;simp[afI,hlen,←cX];refine⟨_,Kj _ _ (by omega),?_⟩;simp[afH,hlen,←cX];refine⟨_,ue _,?_⟩;simp[afG,hlen,←cX,vG];refine⟨_,hF 0 _,?_⟩;simp[afF,hlen,←cX,vG];refine⟨_,hF 1 _,?_⟩;simp[afE,hlen,←cX,vG];refine⟨_,hF 2 _,?_⟩;simp[afw,hlen,←cX,vG];refine⟨_,hF 3 _,?_⟩;simp[afl,hlen,←cX,vG];refine⟨_,hF 4 _,?_⟩;simp[cells,zk,qn,qo]
theorem ad8 (r:Realm)(hr:r.cities.length≤100000)(c:Case)(hf:FewS c.file):aj T 101 [aL r,ei c] (cells (dH r (bM c))):=by
 have g:=hf.at_ c.day;refine .of_tree rfl (lA 125 (by kernel_rfl)) au2 ?_;simp[UY];refine⟨_,D7 c.file c.day (by have:=hf.signs;omega) (by have:=hf.acts;omega) (by have:=hf.alters;omega) (by have:=hf.facts;omega),?_⟩;have hv:=aq5 r hr (bM c) (by have:=g.facts;show(bq c.file c.day).facts.length≤_;omega) (by have:=g.alters;show(bq c.file c.day).alters.length≤_;omega);simp;exact hv
theorem aro (s:Said):aj T 94 [jz s] (.int (iO s)):=by
 refine .of_tree rfl (lA 159 (by kernel_rfl)) au5 ?_;unfold iO;by_cases h:s.err=0
 ·cases h2:s.cell.known<;>simp[Lw,h,h2]
 ·simp[Lw,h]
end Rm
namespace Rm
open Go Go.Proofs Cx
def dE (r:Realm)(forum:Int)(c:Case):List Int:=if dH r (bM c)=[] then[] else fw r forum (bM c)
end Rm
namespace Rm
open Go Go.Proofs Cx
theorem ahk {r:Realm}(h:dJ r=0)(i:Nat)(hi:i<r.cities.length):lh r r.cities[i]=true:=by
 unfold dJ at h;rw[K4] at h;have h1:=h (ej (eN r) 40 (l0 r)) (by simp);unfold ej at h1;split at h1
 ·cases h1
 have h2:=X0 h1 i (by simpa [eN] using hi);have h3:=(zj h2).2;unfold l0 at h3;simpa [hi] using h3
theorem ahq {r:Realm}(h:dJ r=0)(i:Nat)(hi:i<r.cities.length):0≤r.cities[i].order∧r.cities[i].order<r.orders.length:=by
 have:=ahk h i hi;unfold lh at this;simp only[ay] at this;obtain⟨⟨_,⟨⟨_,h2⟩,_⟩⟩,_⟩:=this;simpa [aF] using h2
theorem DI {r:Realm}(h:dJ r=0)(c:Int):cC r c=-1∨(0≤cC r c∧cC r c<r.orders.length):=by
 unfold cC;split
 ·rename_i hc;have ls:0≤c∧c<r.cities.length:=by simpa [aF] using hc
  have hl:c.toNat<r.cities.length:=by omega
  right;have:=ahq h c.toNat hl;simpa [hl] using this
 ·exact .inl rfl
end Rm
namespace Rm
open Go Go.Proofs Cx
theorem awa {q:Int}(h:q<0∨22≤q):(eD q).2=false:=by unfold eD;rw[if_pos h]
theorem awb {q:Int}(h:¬(q<0∨22≤q)):(eD q).2=true:=by unfold eD;rw[if_neg h];split<;>rfl
theorem aac {r:Realm}{forum q:Int}{c:Case}(h:dE r forum c=[]∨q<0∨22≤q):jX r forum q c=DB:=by
 have e:(eh r forum q c)=(DB,[]):=by
  unfold eh;by_cases h1:dH r (bM c)=[]
  ·rw[if_pos h1]
  rw[if_neg h1];cases h2:(eD q).2
  ·rw[if_pos rfl]
  rw[if_neg (by simp)];rcases h with h|h
  ·unfold dE at h;rw[if_neg h1] at h;rw[if_pos h]
  ·rw[awa h] at h2;cases h2
 unfold jX;rw[e];rfl
structure Joined (r:Realm) (forum q:Int) (c:Case):Prop where
 vars:(dH r (bM c)).length=20
 sign:0≤c.sign∧c.sign<(bq c.file c.day).signs.length
 who:0≤(kQ (bq c.file c.day) c.sign).who∧(kQ (bq c.file c.day) c.sign).who<r.firms.length
 places:dE r forum c=[forum,cC r (kQ (bq c.file c.day) c.sign).city,cC r c.file.bill.pay,cC r c.file.bill.city,cC r (r.firms.getD (kQ (bq c.file c.day) c.sign).who.toNat default).city]
 path:(cN r forum q (dE r forum c)).1≠[]
 ask:jX r forum q c=if(cN r forum q (dE r forum c)).2=0 then⟨(lX (gw r (cg (cN r forum q (dE r forum c)).1)) q (dH r (bM c))).1,cg (cN r forum q (dE r forum c)).1,(cN r forum q (dE r forum c)).1,(lX (gw r (cg (cN r forum q (dE r forum c)).1)) q (dH r (bM c))).2⟩
  else⟨cP,-1,(cN r forum q (dE r forum c)).1,(cN r forum q (dE r forum c)).2⟩
theorem aal (r:Realm)(q:Int)(l:List Int):∀(n:Nat) (p:List Int),p≠[]→(gO r q l n p).1≠[]
 |0,p,h=>h
 |n+1,p,h=>by
  rw[Ds];split
  ·exact h
  split
  ·simp
  split
  ·simp
  ·exact aal r q l n _ (by simp)
theorem anw {r:Realm}(hr:Right r)(hc:dJ r=0){forum q:Int}{c:Case}(h:dE r forum c≠[])(hq:¬(q<0∨22≤q)):Joined r forum q c:=by
 have hv:dH r (bM c)≠[]:=fun e=>h (by unfold dE;rw[if_pos e]);have eu:dE r forum c=fw r forum (bM c):=by unfold dE;rw[if_neg hv]
 have hp:fw r forum (bM c)≠[]:=by rw[←eu];exact h
 have hb:¬jx r forum (bM c):=fun e=>hp (by unfold fw;rw[if_pos e]);have hn:hasB (ez r forum (bM c)) (-1)=false:=by
  cases e:hasB (ez r forum (bM c)) (-1) with
  |false=>rfl
  |true=>exact absurd (by unfold fw;rw[if_neg hb,if_pos e]) hp
 have ho:fw r forum (bM c)=ez r forum (bM c):=by unfold fw;rw[if_neg hb,hn];simp
 have cf:∀x,x∈ez r forum (bM c)→0≤x∧x<r.orders.length:=by
  intro x hx
  have aC:x≠-1:=fun e=>by
   subst e;have:hasB (ez r forum (bM c)) (-1)=true:=by simpa [hasB] using hx
   rw[hn] at this;cases this
  unfold ez at hx;simp only[di,List.not_mem_nil,or_false] at hx;unfold jx at hb;rcases hx with rfl|rfl|rfl|rfl|rfl
  ·omega
  all_goals
   rcases DI hc _ with e|e
   ·exact absurd e aC
   ·exact e
 have IG:ix r forum q (ez r forum (bM c))=true:=by
  have hf:=cf forum (by simp[ez]);have hl:(ez r forum (bM c)).length=5:=rfl;unfold ix;rw[ay];constructor
  ·simp[hl];omega
  ·rw[kh,LU];intro k hk;have br:=gm.1 hk;have:=cf ((ez r forum (bM c))[k]) (cq br);simp[DJ,br];omega
 have rv:cN r forum q (dE r forum c)=gO r q (dE r forum c) r.orders.length [forum]:=by
  unfold cN;rw[eu,ho,if_pos ⟨IG,rfl⟩]
 refine⟨?_,Wk hv,?_,by rw[eu,ho];rfl,by rw[rv];exact aal _ _ _ _ _ (by simp),?_⟩
 ·unfold dH at hv ⊢;split at hv
  ·rename_i hh;rw[if_pos hh];simp[zk,qn,qo]
  ·exact absurd rfl hv
 ·unfold jx at hb;have e1:(bM c).file=bq c.file c.day:=rfl;have e2:(bM c).sign=c.sign:=rfl;rw[e1,e2] at hb;omega
 ·have e:eh r forum q c=(⟨cP,if(cN r forum q (dE r forum c)).2=0 then cg (cN r forum q (dE r forum c)).1 else-1,(cN r forum q (dE r forum c)).1,(cN r forum q (dE r forum c)).2⟩,dH r (bM c)):=by
   unfold eh;rw[if_neg hv,awb hq,if_neg (by simp),if_neg hp,eu]
  have tq:(dE r forum c).length≤100000:=by rw[eu,ho];simp[ez]
  have Ow:=Ji hr (a:=forum) (q:=q) (l:=dE r forum c) tq;unfold jX;rw[e];generalize cN r forum q (dE r forum c)=L at*;by_cases h0:L.2=0
  ·have:=(Ow h0).2;simp only[h0,if_true];rw[if_neg (by omega)]
  ·simp[h0]
end Rm
namespace Rm
open Go Go.Proofs Cx
theorem agJ (f:File)(day:Int){i:Nat}(hi:i<(bq f day).signs.length):∃h:i<f.signs.length,(bq f day).signs[i]=f.signs[i]:=by
 obtain⟨m,hm,e,_,_⟩:=xp (fun s:Sign=>decide (s.day≤day)) f.signs;have e':(bq f day).signs=f.signs.take m:=e;have h1:i<f.signs.length:=by rw[e',dZ] at hi;omega
 refine⟨h1,?_⟩;simp only[e',List.getElem_take]
def afL (b:Nat→PC):PT:=
 (.call ⟨[],[(8,(.setn o8 (pi 3) 0 Ea))]⟩ [] 79 138 [(ar 8 o3),(pc (pn (pc o3 3) (pc o7 2)) 1)] (.chk (ao o8 (pi 4)) (.brk ⟨[(9,(pi 0))],[(8,(.setn o8 (pi 4) 0 RG))]⟩ (aaw b) (.ret o8))))
def afM (b:Nat→PC):PT:=
 (.call ⟨[],[(8,(.setn o8 (pi 2) 0 uh))]⟩ [] 68 138 [(ar 8 o3),(pc o5 9)] (.chk (ao o8 (pi 3)) (.chk (ao (pc o3 3) (pc o7 2)) (afL b))))
def afN (b:Nat→PC):PT:=
 (.call ⟨[],[(8,(.setn o8 (pi 1) 0 sc))]⟩ [] 60 138 [(ar 8 o3),(pc o5 10)] (.chk (ao o8 (pi 2)) (afM b)))
def afO (b:Nat→PC):PT:=
 (.call ⟨[(8,pN)],[(8,(.setn (.rep (pi 5) (pi 0)) (pi 0) 0 r1)),(7,(.setc z9 0 (pn (pc o5 15) (pc o5 19))))]⟩ [] 52 138 [(ar 8 o3),(pc (.setc z9 0 (pn (pc o5 15) (pc o5 19))) 7)] (.chk (ao o8 (pi 1)) (afN b)))
def afP (b:Nat→PC):PT:=
 (.call ⟨[(6,pL)],[(5,(.mk [r2])),(3,(.mk [r0]))]⟩ [] 12 101 [(ar 8 (.mk [r0])),(ar 24 (.mk [r2]))] (.ite (.pick (.pick (ak (.llen bR) (pi 0)) pT (ah r1 (pi 0))) pT (bN r1 (.llen (pc o3 4)))) (.ret pL) (.chk (ao (pc o5 15) (pc o5 19)) (.ite (.pick (ah (pc (.setc z9 0 (pn (pc o5 15) (pc o5 19))) 2) (pi 0)) pT (bN (pc (.setc z9 0 (pn (pc o5 15) (pc o5 19))) 2) (.llen (pc o3 3)))) (.ret pL) (.chk (.an (bN (pi 5) (pi 0)) (aX (pi 5) (pi 4294967296))) (.chk (ak (pi 5) (pi 5)) (.chk (ao (.rep (pi 5) (pi 0)) (pi 0)) (afO b))))))))
theorem au6 (b:Nat→PC):U1 b=afP b:=rfl
theorem arp (r:Realm)(hc:dJ r=0)(hr:r.cities.length≤100000)(forum:Int)(c:Case)(hf:FewS c.file):aj T 97 [aL r,.int forum,ei c] (ints (dE r forum c)):=by
 have hC:=ad8 r hr c hf;refine .of_tree rfl (lA 124 (by kernel_rfl)) au7 ?_;rw[au6];simp[afP];unfold dE;by_cases hv:dH r (bM c)=[]
 ·rw[if_pos hv];rw[hv] at hC;refine⟨_,hC,?_⟩;simp;rfl
 rw[if_neg hv];refine⟨_,hC,?_⟩;have gK:=Wk hv;have I6:c.sign.toNat<(bq c.file c.day).signs.length:=by
  have:(bM c).file.signs=(bq c.file c.day).signs:=rfl;have e2:(bM c).sign=c.sign:=rfl;rw[this,e2] at gK;omega
 obtain⟨C7,cX⟩:=agJ c.file c.day I6;have h0:0≤c.sign:=gK.1;simp[hv];have hp:fw r forum (bM c)=if jx r forum (bM c) then[] else if hasB (ez r forum (bM c)) (-1)=true then[] else ez r forum (bM c):=rfl;have zw:jx r forum (bM c)↔((c.file.signs[c.sign.toNat].who<0∨(r.firms.length:Int)≤c.file.signs[c.sign.toNat].who)∨forum<0)∨(r.orders.length:Int)≤forum:=by
  have e:kQ (bM c).file (bM c).sign=c.file.signs[c.sign.toNat]:=by
   show(bq c.file c.day).signs.getD c.sign.toNat default=_;rw[←cX];simp[I6]
  unfold jx;rw[e];constructor
  ·rintro(h|h|h|h)<;>simp[h]
  ·rintro(((h|h)|h)|h)<;>simp[h]
 by_cases YO:forum<0∨(r.orders.length:Int)≤forum
 ·rw[if_pos YO,hp,if_pos (zw.2 (by omega))];rfl
 rw[if_neg YO];obtain⟨sg,nl⟩:∃sg:Sign,sg=c.file.signs[c.sign.toNat]:=⟨_,rfl⟩
 rw[←nl] at zw;simp[C7,←nl];refine⟨by omega,?_⟩;by_cases hw:sg.who<0∨(r.firms.length:Int)≤sg.who
 ·rw[if_pos hw,hp,if_pos (zw.2 (.inl (.inl hw)))];rfl
 rw[if_neg hw];have dL:¬jx r forum (bM c):=fun e=>by have:=zw.1 e;omega
 have vX:sg.who.toNat<r.firms.length:=by omega
 have ho:ez r forum (bM c)=[forum,cC r sg.city,cC r c.file.bill.pay,cC r c.file.bill.city,cC r r.firms[sg.who.toNat].city]:=by
  have e:kQ (bM c).file (bM c).sign=sg:=by
   show(bq c.file c.day).signs.getD c.sign.toNat default=_;rw[nl,←cX];simp[I6]
  unfold ez;rw[e];simp[vX];exact⟨rfl,rfl⟩
 rw[hp,if_neg dL,ho];have jq:∀x:Int,aj T 138 [aL r,.int x] (.int (cC r x)):=fun x=>Ki r x hr;simp[afO,C7,←nl];refine⟨_,jq _,?_⟩;simp[afN,C7,←nl];refine⟨_,jq _,?_⟩;simp[afM,C7,←nl];refine⟨_,jq _,?_⟩;simp[afL,C7,←nl,vX];refine⟨by omega,_,jq _,?_⟩;have o1:=DI hc sg.city;have o2:=DI hc c.file.bill.pay;have o3:=DI hc c.file.bill.city;have o4:=DI hc r.firms[sg.who.toNat].city;generalize cC r sg.city=x1 at*;generalize cC r c.file.bill.pay=x2 at*;generalize cC r c.file.bill.city=x3 at*;generalize cC r r.firms[sg.who.toNat].city=x4 at*;have hR:∀x,(x=-1∨0≤x)→¬0≤x→x=-1:=fun x h1 h2=>by omega
 have aC:¬forum<0:=by omega
 obtain⟨R,m6⟩:∃R,R=ints (if hasB [forum,x1,x2,x3,x4] (-1)=true then[] else[forum,x1,x2,x3,x4]):=⟨_,rfl⟩
 rw[←m6];have anf:(x1=-1∨x2=-1∨x3=-1∨x4=-1)→R=.list []:=by
  intro h;have:hasB [forum,x1,x2,x3,x4] (-1)=true:=by
   simp[hasB];omega
  rw[m6,this];rfl
 have eT:¬(x1=-1∨x2=-1∨x3=-1∨x4=-1)→R=ints [forum,x1,x2,x3,x4]:=by
  intro h;have:hasB [forum,x1,x2,x3,x4] (-1)=false:=by
   cases e:hasB [forum,x1,x2,x3,x4] (-1) with
   |false=>rfl
   |true=>
    exfalso;simp[hasB] at e;omega
  rw[m6,this];rfl
 clear m6;refine aH.scan 5 (fun k=>0≤[forum,x1,x2,x3,x4].getD k 0) (fun k=>[.list [],.int k]) (fun _=>[]) ?_ (fun k hk hj ho=>?_) (fun k hk hj ho=>?_) (fun hj=>?_)
 ·simp
 ·have h5:k=0∨k=1∨k=2∨k=3∨k=4:=by omega
  rcases h5 with rfl|rfl|rfl|rfl|rfl<;>simp at ho<;>simp[Sl,EM,Int.not_lt.2 ho,show IntKind.i64.wrap 2=2 by decide,show IntKind.i64.wrap 3=3 by decide,show IntKind.i64.wrap 4=4 by decide,show IntKind.i64.wrap 5=5 by decide,show IntKind.i64.wrap 1=1 by decide]
 ·have h5:k=0∨k=1∨k=2∨k=3∨k=4:=by omega
  rcases h5 with rfl|rfl|rfl|rfl|rfl<;>simp at ho<;>simp[Sl,EM,ho]
  ·omega
  all_goals exact(anf (by omega)).symm
 ·have a1:=hj 1 (by omega);have a2:=hj 2 (by omega);have a3:=hj 3 (by omega);have a4:=hj 4 (by omega);simp at a1 a2 a3 a4;rw[eT (by omega)];simp[Sl,EM]
  try rfl
end Rm
namespace Rm
open Go Go.Proofs Cx
def L6 (r:Realm):Prop:=∀o,o∈r.orders→o.choices.Pairwise fun a b=>a.ask≠b.ask
def nW (q:Int)(ch:Choice):Bool:=decide (ch.ask=q)
theorem XX {q:Int}:∀{l:List Choice},l.Pairwise (fun a b=>a.ask≠b.ask)→l.find? (kF q)=(l.find? (nW q)).bind fun ch=>if ch.by_=0 then none else some ch
 |[],_=>rfl
 |ch::l,h=>by
  rw[WH] at h;by_cases h1:ch.ask=q
  ·have hn:∀x,x∈l→x.ask≠q:=fun x hx e=>h.1 x hx (h1.trans e.symm);have CU:l.find? (kF q)=none:=by
        rw[sG];intro x hx;simp[kF,hn x hx]
   by_cases h2:ch.by_=0
   ·simp[FH,kF,nW,h1,h2];have:=CU;unfold kF at this;simpa using this
   ·simp[FH,kF,nW,h1,h2]
  ·have ih:=XX (q:=q) h.2;simp[FH,kF,nW,h1];unfold kF nW at ih;exact ih
theorem ad5 (r:Realm)(l:List Int)(hr:r.orders.length≤100000)(hl:l.length=5)(hx:∀x,x∈l→0≤x∧x<r.orders.length):aj T 139 [aL r,ints l] (.bool true):=by
 have gM:IntKind.i64.wrap ((r.orders.length:Int)-1)=(r.orders.length:Int)-1:=aN (by omega);refine .of_tree rfl (lA 134 (by kernel_rfl)) auY ?_;simp[UU];refine aH.forRounds l.length (fun k=>[.bool false,.int k]) (fun _=>[]) ?_ (fun k hk=>?_) ?_
 ·simp
 ·have hw:=ba hk (by omega);have cf:=hx _ (cq hk);have Pd:wi l[k] 0 ((r.orders.length:Int)-1)=true:=by simp[wi];omega
  simp[aeq,KE,hk,hw,gM];refine⟨_,cm _ _ _,?_⟩;simp[Pd,hw]
 ·simp[aeq,KE,hl]
def Np (o:Order)(q:Int):Choice:=(o.choices.find? (nW q)).getD ⟨q,0,false⟩
theorem ari (o:Order)(q:Int)(hl:o.choices.length≤100000):aj T 163 [gq o,.int q] (qZ (Np o q)):=by
 refine .of_tree rfl (lA 136 (by kernel_rfl)) auV ?_;simp[UR];unfold Np;refine aH.scan o.choices.length (fun k=>nW q (o.choices.getD k default)=false) (fun k=>[.int k]) (fun _=>[.agg [.int 0,.int 0,.bool false]]) ?_ (fun k hk hj az=>?_) (fun k hk hj az=>?_) (fun hj=>?_)
 ·simp
 ·have hw:=ba hk (by omega);have hn:¬o.choices[k].ask=q:=by simpa [nW,hk] using az
  simp[Si,EK,hk,hw,hn]
 ·have dK:=ot hk (by simpa [hk] using az) (fun j bm=>by have:=hj j bm;simpa [show j<o.choices.length by omega] using this);have hc:o.choices[k].ask=q:=by simpa [nW,hk] using az
  rw[dK];simp[Si,EK,hk,hc];subst hc;rfl
 ·have dK:=pI (l:=o.choices) (p:=nW q) (fun j bm=>by have:=hj j bm;simpa [bm] using this);rw[dK];simp[Si,EK]
  try rfl
theorem ark (r:Realm)(jZ:uP r)(du:L6 r)(hr:r.orders.length≤100000)(a q:Int)(l:List Int)(hf:ix r a q l=true)(hq:0≤q∧q<22):
 aj T 140 [aL r,.int a,.int q,ints l] (.tup [.int (eM r a q l).1,.bool (eM r a q l).2]):=by
 obtain⟨ha,tq,hx,_⟩:=zi hf;have gM:IntKind.i64.wrap ((r.orders.length:Int)-1)=(r.orders.length:Int)-1:=aN (by omega);have me:a.toNat<r.orders.length:=by omega
 obtain⟨bD,j1⟩:=jZ _ (cq me);have hpw:=du _ (cq me);have vP:gw r a=r.orders[a.toNat]:=by simp[gw,me]
 have zC:=XX (q:=q) hpw;have Pc:wi a 0 ((r.orders.length:Int)-1)=true:=by simp[wi];omega
 have Di:wi q 0 21=true:=by simp[wi];omega
 refine .of_tree rfl (lA 135 (by kernel_rfl)) auX ?_;simp[UT,gM];refine⟨_,ad5 r l hr tq hx,?_⟩;simp;refine⟨_,cm _ _ _,?_⟩;simp[Pc];refine⟨_,cm _ _ _,?_⟩;simp[Di,me];refine⟨ha,_,ari _ q bD,?_⟩;unfold eM;rw[vP,zC];unfold Np;cases dK:r.orders[a.toNat].choices.find? (nW q) with
 |none=>simp
 |some ch=>
  have hb:=j1 _ (xG dK);have zx:ch.by_.toNat<l.length:=by omega
  by_cases h0:ch.by_=0
  ·simp[h0]
  ·simp[h0,zx];omega
theorem ar5 {l:List Int}{a b:Int}(h:rising l a b=true):l.Pairwise (·<·):=by
 unfold rising at h;rw[uW] at h
 have step:∀i (h1:i+1<l.length),l[i]'(by omega)<l[i+1]:=by
  intro i h1;have:=h (i+1) h1;have hi:i<l.length:=by omega
  simp[mN,h1,hi] at this;exact this.2
 rw[List.pairwise_iff_getElem];intro i j hi hj ru;obtain⟨d,rfl⟩:∃d,j=i+1+d:=⟨j-i-1,by omega⟩
 clear ru
 induction d with
 |zero=>exact step i hj
 |succ d ih=>exact Int.lt_trans (ih (by omega)) (step (i+1+d) hj)
theorem apZ {r:Realm}(h:dJ r=0):L6 r:=by
 intro o ho;obtain⟨k,hk,rfl⟩:=jt ho;have h1:=Xk h k hk;unfold nu at h1;simp only[ay] at h1;have h2:=ar5 h1.2.1;unfold uX at h2;rw[List.pairwise_map] at h2;exact h2.imp fun h=>by omega
def pf (N:Nat)(p:List Int):D:=.list ((List.range N).map fun(i:Nat)=>D.bool (hasB p (i:Int)))
theorem asr {N:Nat}{p:List Int}{k:Nat}(hk:k<N):(pf N p).l[k]?.getD D.none=D.bool (hasB p (k:Int)):=by
 show((List.range N).map fun(i:Nat)=>D.bool (hasB p (i:Int)))[k]?.getD D.none=_;simp[hk]
theorem ass (N:Nat)(p:List Int):(pf N p).l.length=N:=by
 show((List.range N).map fun(i:Nat)=>D.bool (hasB p (i:Int))).length=N;simp
theorem aeR {N:Nat}{p:List Int}{x:Int}(h0:0≤x):D.list ((pf N p).l.set x.toNat (D.bool true))=pf N (p++[x]):=by
 show D.list (((List.range N).map fun(i:Nat)=>D.bool (hasB p (i:Int))).set x.toNat (D.bool true))=_;unfold pf
 congr 1
 apply LW
 ·simp
 ·intro i h1 h2;simp at h2;rw[List.getElem_set];by_cases h:x.toNat=i
  ·have hx:x=(i:Int):=by omega
   simp[h,hx,hasB]
  ·have hx:¬(i:Int)=x:=by omega
   have e:hasB (p++[x]) (i:Int)=hasB p (i:Int):=by
        simp[hasB,hx];intro e;exact absurd e.symm hx
   simp[h,e]
end Rm
namespace Rm
open Go Go.Proofs Cx
@[simp] theorem aC2 (x y:Bool):sv (D.bool x) 0 (D.bool y)=D.bool y:=_root_.id rfl
theorem arj (r:Realm)(jZ:uP r)(du:L6 r)(hn:r.orders.length≤100000)(a q:Int)(l:List Int)(hf:ix r a q l=true)(hq:0≤q∧q<22)(alL:l.getD 0 0=a):
 aj T 99 [aL r,.int a,.int q,ints l] (.tup [ints (cN r a q l).1,.int (cN r a q l).2]):=by
 obtain⟨ha,tq,hx,lq⟩:=zi hf;have h0:0<l.length:=by omega
 have oC:l[0]=a:=by simpa [h0] using alL
 have hE:cN r a q l=gO r q l r.orders.length [a]:=by unfold cN;rw[if_pos ⟨hf,by simp[h0,oC]⟩]
 have gM:IntKind.i64.wrap ((r.orders.length:Int)-1)=(r.orders.length:Int)-1:=aN (by omega);have Pc:wi a 0 ((r.orders.length:Int)-1)=true:=by simp[wi];omega
 have Di:wi q 0 21=true:=by simp[wi];omega
 have me:a.toNat<r.orders.length:=by omega
 rw[hE];refine .of_tree rfl (lA 133 (by kernel_rfl)) auW ?_;simp[US,gM];refine⟨_,ad5 r l hn tq hx,?_⟩;simp;refine⟨_,cm _ _ _,?_⟩;simp[Pc];refine⟨_,cm _ _ _,?_⟩;simp[Di,h0,oC];refine⟨by omega,ha,?_⟩;refine aH.forLoop (α:=Nat×List Int) (fun s vr vo=>(∃x,vr=[.list [],.int 0,x,.int ((r.orders.length-s.1:Nat):Int)])∧vo=[pf r.orders.length s.2,ints s.2]∧s.2.Nodup∧(∀x,x∈s.2→0≤x∧x<(r.orders.length:Int))∧s.2≠[]∧s.1+s.2.length=r.orders.length+1∧gO r q l s.1 s.2=gO r q l r.orders.length [a]) (fun s=>s.1) (r.orders.length,[a]) ?_ ?_
 ·have OX:D.list ((List.replicate r.orders.length (D.bool false)).set a.toNat (D.bool true))=pf r.orders.length [a]:=by
   have h1:(pf r.orders.length [])=D.list (List.replicate r.orders.length (D.bool false)):=by
        unfold pf
        congr 1
        apply LW
        ·simp
        ·intro i h1 h2;simp[hasB]
   have h2:=aeR (N:=r.orders.length) (p:=[]) (x:=a) ha.1;rw[h1] at h2;exact h2
  simp[ints,me,OX];exact ha
 ·rintro⟨n,p⟩ vr vo ⟨⟨x0,rfl⟩,rfl,bS,cf,aC,hlen,rv⟩;simp only at*;have eu:p.length≤r.orders.length:=J0 _ p bS cf;have zR:0<p.length:=xD.mpr aC;obtain⟨m,rfl⟩:∃m,n=m+1:=⟨n-1,by omega⟩
  have aq:p.length-1<p.length:=by omega
  have ib:cg p=p[p.length-1]:=by simp[cg,aq]
  have mh:=cf _ (cq aq);rw[←ib] at mh;have vz:=ark r jZ du hn (cg p) q l (lq _ mh.1 mh.2) hq;obtain⟨_,eW,eX⟩:=LS r jZ (cg p) q l (by omega) (lq _ mh.1 mh.2);have vK:((p.length:Int)-1).toNat=p.length-1:=by omega
  have vY:IntKind.i64.wrap ((p.length:Int)-1)=(p.length:Int)-1:=aN (by omega);rw[←rv,Ds];obtain⟨L,hL⟩:∃L,L=eM r (cg p) q l:=⟨_,rfl⟩
  rw[←hL] at vz eW eX ⊢;obtain⟨to,whole⟩:=L;simp only at vz eW eX;have pW:to.toNat<r.orders.length:=by omega
  have vP:gw r to=r.orders[to.toNat]:=by simp[gw,pW]
  simp only[vP];have hk:((r.orders.length-(m+1):Nat):Int)≤r.orders.length:=by omega
  have hkw:IntKind.i64.wrap (((r.orders.length-(m+1):Nat):Int)+1)=((r.orders.length-m:Nat):Int):=by rw[aN (by omega)];omega
  simp[arK,Sj,vY,vK,aq,←ib,ints,hk];refine⟨by omega,_,vz,by omega,?_⟩;by_cases h1:to=cg p
  ·simp[h1]
  simp[h1];refine⟨by omega,?_⟩;cases whole
  ·simp
  have gK:=asr (N:=r.orders.length) (p:=p) pW;have Da:((to.toNat:Nat):Int)=to:=by omega
  rw[Da] at gK
  have cX:∀h:to.toNat<(pf r.orders.length p).l.length,(pf r.orders.length p).l[to.toNat]=D.bool (hasB p to):=fun h=>by
   rw[bW h] at gK;exact gK
  simp[ass,cX,pW,eW,eX,aeR];cases h2:hasB p to
  ·have dM:to∉p:=fun hm=>by
        have:hasB p to=true:=by simp[hasB,hm]
        rw[h2] at this;cases this
   simp[h2];refine⟨m,by omega,hkw,p++[to],⟨rfl,by simp⟩,?_,?_,by simp,by simp;omega,rfl⟩
   ·exact Bm.mpr ⟨bS,by simp,fun x hx y hy=>by simp at hy;subst hy;exact fun e=>dM (e▸hx)⟩
   ·intro x hx;rcases dp.mp hx with h|h
    ·exact cf x h
    ·simp at h;subst h;exact⟨eW,eX⟩
  ·cases h3:r.orders[to.toNat].accepts<;>simp[h2,h3,pW]
end Rm
namespace Rm
open Go Go.Proofs Cx
theorem PA (L:Nat)(t:Tm):1≤bo L t:=tU L t
theorem aeY:∀(L:Nat) (t:Tm) (n:Int),0≤n→n≤60→(bo L t≤n→fE L t n=n-bo L t)∧(n<bo L t→fE L t n<0)
 |0,t,n,h0,h1=>by
  refine⟨fun h=>?_,fun _=>by simp[fE]⟩;simp[bo] at h;omega
 |L+1,t,n,h0,h1=>by
  have key:∀(l:List Tm) (m:Int),1≤m→m≤60→
    (cO (bo L) l m≤n→l.foldl (fun m a=>if 0≤m then fE L a m else m) (n-m)=n-cO (bo L) l m)∧(n<cO (bo L) l m→l.foldl (fun m a=>if 0≤m then fE L a m else m) (n-m)<0):=by
   intro l
   induction l with
   |nil=>
    intro m vL vM;simp only[cO,List.foldl_nil];exact⟨fun _=>trivial,fun h=>by omega⟩
   |cons a l ih=>
    intro m vL vM;have hp:=PA L a;simp only[FI,cO];by_cases hn:0≤n-m
    ·rw[if_pos hn];obtain⟨s1,s2⟩:=aeY L a (n-m) hn (by omega);by_cases hle:bo L a≤n-m
     ·rw[s1 hle];have e:n-m-bo L a=n-(m+bo L a):=by omega
      rw[e,if_neg (by omega)];exact ih (m+bo L a) (by omega) (by omega)
     ·have Zo:=s2 (by omega);rw[K8 L l _ Zo];have CN:n<(if 60<m+bo L a then m+bo L a else cO (bo L) l (m+bo L a)):=by
        split
        ·omega
        ·have:m+bo L a≤cO (bo L) l (m+bo L a):=by
             have gen:∀(l:List Tm) (x:Int),x≤cO (bo L) l x:=by
               intro l
               induction l with
               |nil=>intro x;simp[cO]
               |cons b l np=>
                intro x;have hb:=PA L b;simp only[cO];split
                ·omega
                ·have:=np (x+bo L b);omega
             exact gen l _
         omega
      exact⟨fun h=>by omega,fun _=>Zo⟩
    ·rw[if_neg hn,K8 L l _ (by omega)];have gen:∀(l:List Tm) (x:Int),x≤cO (bo L) l x:=by
       intro l
       induction l with
       |nil=>intro x;simp[cO]
       |cons b l np=>
        intro x;have hb:=PA L b;simp only[cO];split
        ·omega
        ·have:=np (x+bo L b);omega
     have CN:n<(if 60<m+bo L a then m+bo L a else cO (bo L) l (m+bo L a)):=by
       have:=gen l (m+bo L a);split<;>omega
     exact⟨fun h=>by omega,fun _=>by omega⟩
  show(cO (bo L) t.args 1≤n→_)∧(n<cO (bo L) t.args 1→_)
  exact key t.args 1 (by omega) (by omega)
theorem aeX (t:Tm):fE 8 t 60<0↔60<bo 8 t:=by
 obtain⟨h1,h2⟩:=aeY 8 t 60 (by omega) (by omega);constructor
 ·intro h;refine Bf fun hc=>?_;have:=h1 (by omega);omega
 ·exact h2
def eF (op:Int):Int:=if op=0∨op=1∨op=2 then 0 else if op=3 then 1 else if op=6 then 3 else 2
theorem aq9 (op:Int):aj T 209 [.int op] (.int (eF op)):=by
 refine .of_tree rfl (lA 142 (by kernel_rfl)) auH ?_;unfold eF;by_cases h0:op=0
 ·simp[uF,h0]
 by_cases h1:op=1
 ·simp[uF,h0,h1]
 by_cases h2:op=2
 ·simp[uF,h0,h1,h2]
 by_cases h3:op=3
 ·simp[uF,h0,h1,h2,h3]
 by_cases h6:op=6
 ·simp[uF,h0,h1,h2,h3,h6]
 ·simp[uF,h0,h1,h2,h3,h6]
theorem adZ (v:Int):aj T 212 [.int v] (.tup [.int (jn v).1,.bool (jn v).2]):=by
 refine .of_tree rfl (lA 144 (by kernel_rfl)) auG ?_;unfold jn;by_cases h1:v<0
 ·simp[A6,h1]
 by_cases h2:19<v
 ·simp[A6,h1,h2,show 20≤v by omega]
 by_cases h3:v<7
 ·simp[A6,h1,h2,h3,show ¬20≤v by omega,show v≤6 by omega]
 ·simp[A6,h1,h2,h3,show ¬20≤v by omega,show ¬v≤6 by omega]
theorem arb (t:Tm)(ha:t.args.length=0)(ho:t.op=0∨t.op=1∨t.op=2):aj T 210 [cR t] (.tup [.int (p5 t).1,.int (p5 t).2]):=by
 have hv:=adZ t.n;refine .of_tree rfl (lA 143 (by kernel_rfl)) auK ?_;unfold p5;rw[if_neg (by omega)];by_cases h0:t.op=0
 ·have hc:kp t.n≠t.n↔t.n< -1099511627776∨1099511627776<t.n:=by unfold kp;omega
  by_cases h:t.n< -1099511627776∨1099511627776<t.n
  ·rw[if_pos h0,if_pos (hc.2 h)];simp[uG,h0,h]
  ·rw[if_pos h0,if_neg (fun e=>h (hc.1 e))];simp[uG,h0,h]
 by_cases h1:t.op=1
 ·by_cases h:t.n=0
  ·simp[uG,h0,h1,h]
  by_cases h':t.n=1
  ·simp[uG,h0,h1,h']
  ·have:t.n<0∨1<t.n:=by omega
   simp[uG,h0,h1,h,h',this]
 ·simp[uG,h0,h1];refine⟨_,hv,?_⟩;cases h2:(jn t.n).2<;>simp[h2]
def Ad (op:Int)(l:List Int):Int×Bool:=
 if op=3 then(1,decide (l.getD 0 0=1)) else if op=4∨op=5 then(1,decide (l.getD 0 0=1)&&decide (l.getD 1 0=1))
 else if op=6 then(l.getD 1 0,decide (l.getD 0 0=1)&&decide (l.getD 1 0=l.getD 2 0)) else if op=7 then(1,decide (l.getD 0 0=0)&&decide (l.getD 1 0=0))
 else if op=8 then(1,decide (l.getD 0 0=l.getD 1 0)) else(0,decide (l.getD 0 0=0)&&decide (l.getD 1 0=0))
theorem ara (op:Int)(l:List Int)(h1:1≤l.length)(h2:op≠3→2≤l.length)(h3:op=6→3≤l.length):aj T 211 [.int op,ints l] (.tup [.int (Ad op l).1,.bool (Ad op l).2]):=by
 have g0:0<l.length:=by omega
 refine .of_tree rfl (lA 145 (by kernel_rfl)) auJ ?_;unfold Ad;by_cases o3:op=3
 ·simp[sy,o3,g0]
 have g1:1<l.length:=by have:=h2 o3;omega
 have eH:(1:Int)<l.length:=by omega
 by_cases o4:op=4
 ·by_cases e0:l[0]=1<;>simp[sy,o4,g0,g1,eH,e0]
 by_cases o5:op=5
 ·by_cases e0:l[0]=1<;>simp[sy,o5,g0,g1,eH,e0]
 by_cases o6:op=6
 ·have g2:2<l.length:=by have:=h3 o6;omega
  have ma:(2:Int)<l.length:=by omega
  by_cases e0:l[0]=1<;>simp[sy,o6,g0,g1,g2,eH,ma,e0]
 by_cases o7:op=7
 ·by_cases e0:l[0]=0<;>simp[sy,o7,g0,g1,eH,e0]
 by_cases o8:op=8
 ·simp[sy,o8,g0,g1,eH]
 ·by_cases e0:l[0]=0<;>simp[sy,o3,o4,o5,o6,o7,o8,g0,g1,eH,e0]
theorem anH {α:Type}{l:List α}(h:l.length=1):∃a,l=[a]:=by
 match l,h with
 |[a],_=>exact⟨a,rfl⟩
theorem anI {α:Type}{l:List α}(h:l.length=2):∃a b,l=[a,b]:=by
 match l,h with
 |[a,b],_=>exact⟨a,b,rfl⟩
theorem anJ {α:Type}{l:List α}(h:l.length=3):∃a b c,l=[a,b,c]:=by
 match l,h with
 |[a,b,c],_=>exact⟨a,b,c,rfl⟩
theorem apO (t:Tm)(ks:List Int)(hk:ks.length=t.args.length)(dc:∀x,x∈ks→x=0∨x=1):p7 t ks=if t.op<0∨13<t.op then(0,1) else if(ks.length:Int)≠eF t.op∨(0<eF t.op∧t.n≠0) then(0,2) else
 if eF t.op=0 then p5 t else if(Ad t.op ks).2=false then(0,11) else((Ad t.op ks).1,0):=by
 unfold p7;by_cases h0:t.op<0∨13<t.op
 ·rw[if_pos h0,if_pos h0]
 rw[if_neg h0,if_neg h0];by_cases hl:t.op=0∨t.op=1∨t.op=2
 ·have ha:eF t.op=0:=by unfold eF;rw[if_pos hl]
  rw[if_pos hl,ha];by_cases hz:ks.length=0
  ·rw[if_neg (by omega),if_pos rfl]
  ·rw[if_pos (by omega)];unfold p5;rw[if_pos (by omega)]
 rw[if_neg hl];have hr:3≤t.op∧t.op≤13:=by omega
 have Iy:eF t.op=((dh t.op).1.length:Int):=by
  unfold eF dh;rw[if_neg hl];by_cases o3:t.op=3
  ·simp[o3]
  by_cases o6:t.op=6
  ·simp[o6]
  rw[if_neg o3,if_neg o6];split
  ·omega
  split
  ·rfl
  split
  ·rfl
  split<;>rfl
 by_cases hc:ks.length≠(dh t.op).1.length∨t.n≠0
 ·rw[if_pos hc,if_pos];rw[Iy];have:1≤(dh t.op).1.length:=by
   unfold dh
   repeat' split
   all_goals simp
  omega
 have hB:¬((ks.length:Int)≠eF t.op∨(0<eF t.op∧t.n≠0)):=by rw[Iy];omega
 rw[if_neg hc,if_neg hB];clear hB;have aC:eF t.op≠0:=by
  unfold eF;rw[if_neg hl]
  repeat' split
  all_goals omega
 rw[if_neg aC];have hlen:ks.length=(dh t.op).1.length:=by omega
 by_cases o3:t.op=3
 ·simp[dh,o3] at hlen;obtain⟨a,rfl⟩:=anH hlen;rw[o3];rcases dc a (by simp) with rfl|rfl<;>rfl
 have two:ks.length=2→∃a b,ks=[a,b]∧(a=0∨a=1)∧(b=0∨b=1):=fun h=>by
  obtain⟨a,b,rfl⟩:=anI h;exact⟨a,b,rfl,dc a (by simp),dc b (by simp)⟩
 by_cases o6:t.op=6
 ·simp[dh,o6] at hlen;obtain⟨a,b,c,rfl⟩:=anJ hlen;rcases dc a (by simp) with rfl|rfl<;>rcases dc b (by simp) with rfl|rfl<;>rcases dc c (by simp) with rfl|rfl<;>rw[o6]<;>rfl
 have Zv:t.op=4∨t.op=5∨t.op=7∨t.op=8∨t.op=9∨t.op=10∨t.op=11∨t.op=12∨t.op=13:=by omega
 have zL:ks.length=2:=by
  rw[hlen];rcases Zv with h|h|h|h|h|h|h|h|h<;>rw[h]<;>rfl
 obtain⟨a,b,rfl,ha,hb⟩:=two zL;rcases Zv with h|h|h|h|h|h|h|h|h<;>rw[h]<;>rcases ha with rfl|rfl<;>rcases hb with rfl|rfl<;>rfl
end Rm
namespace Rm
open Go Go.Proofs Cx
theorem agB {op:Int}(h:eF op=0):op=0∨op=1∨op=2:=by
 unfold eF at h;split at h
 ·assumption
 ·exfalso
  repeat' split at h
  all_goals omega
theorem Ry:∀(L:Nat) (t:Tm),t.OK→bo L t≤60→aj T 190 [cR t] (.tup [.int (bt L t).1,.int (bt L t).2])
 |0,t,ht,hm=>by simp[bo] at hm
 |L+1,t,ht,hm=>by
  refine .of_tree rfl (lA 141 (by kernel_rfl)) auO ?_;obtain⟨hl,hp⟩:=Dz hm;simp[UK];refine sq t.args.length (fun k=>(bt L (t.args.getD k default)).2) (fun k=>[.int 0,.int 0,.none,.int k]) (fun k=>[ints ((t.args.map fun a=>(bt L a).1).take k)]) ?_ (fun k hk ho=>?_) (fun k hk ho hb=>?_) (fun hj=>?_)
  ·simp[ints]
  ·have hw:=ba hk (by omega);have cI:=cq hk;have eV:=Ry L t.args[k] (ht.arg cI) (hp _ cI);have CM:(t.args.map fun a=>(bt L a).1)[k]'(by simpa using hk)=(bt L t.args[k]).1:=by simp
   have O5:(t.args.map fun a=>(bt L a).1).take (k+1)=(t.args.map fun a=>(bt L a).1).take k++[(bt L t.args[k]).1]:=by
    rw[gU (by simpa using hk),CM]
   have hlen:((t.args.map fun a=>(bt L a).1).take k).length=k:=by simp;omega
   rw[O5];generalize (t.args.map fun a=>(bt L a).1).take k=A at*;simp[hk] at ho;rw[ho] at eV;generalize (bt L t.args[k]).1=kd at*;simp[Se,EH,hk];refine⟨_,eV,?_⟩;simp[hlen,hk,hw,ints];omega
  ·have cI:=cq hk;have eV:=Ry L t.args[k] (ht.arg cI) (hp _ cI);have hf:bt (L+1) t=(0,(bt L (t.args.getD k default)).2):=by
    rw[B1,hb,if_pos ho]
   rw[hf];simp[hk] at ho ⊢;simp[Se,EH,hk];refine⟨_,eV,?_⟩;simp[ho]
  ·have hf:bt (L+1) t=p7 t (t.args.map fun a=>(bt L a).1):=by
    rw[B1,hj];simp
   have dc:∀x,x∈(t.args.map fun a=>(bt L a).1)→x=0∨x=1:=by
    intro x hx;obtain⟨a,ha,rfl⟩:=eR.1 hx;obtain⟨k,hk,rfl⟩:=jt ha;have hz:(bt L t.args[k]).2=0:=by
     have:=(NJ.1 hj) k hk;simpa [hk] using this
    cases L with
    |zero=>have:=hp _ ha;simp[bo] at this
    |succ L=>exact(B2 (L:=L) (t:=t.args[k]) (k:=(bt (L+1) t.args[k]).1) (by rw[←hz])).2
   rw[hf,apO t _ (by simp) dc];have rz:(t.args.map fun a=>(bt L a).1).length=t.args.length:=by simp
   have e0:(t.args.map fun a=>(bt L a).1).take t.args.length=t.args.map fun a=>(bt L a).1:=by rw[←rz,xH]
   rw[e0];generalize (t.args.map fun a=>(bt L a).1)=ks at*;simp[Se,EH];by_cases h0:t.op<0∨13<t.op
   ·have eI:t.op<0∨14≤t.op:=by omega
    simp[h0,eI]
   have eI:¬(t.op<0∨14≤t.op):=by omega
   simp[h0,eI];refine⟨_,aq9 t.op,?_⟩;by_cases h1:(ks.length:Int)≠eF t.op∨(0<eF t.op∧t.n≠0)
   ·rw[if_pos h1];have cr:¬(ks.length:Int)=eF t.op∨(0<eF t.op∧¬t.n=0):=h1;simp[cr]
   rw[if_neg h1];have cr:¬(¬(ks.length:Int)=eF t.op∨(0<eF t.op∧¬t.n=0)):=h1;simp[cr];by_cases h2:eF t.op=0
   ·have cZ:=agB h2;simp[h2];refine⟨_,arb t (by omega) cZ,?_⟩;simp
   have cZ:¬(t.op=0∨t.op=1∨t.op=2):=by
    intro h;apply h2;unfold eF;rw[if_pos h]
   have bE:1≤ks.length:=by
    have:1≤eF t.op:=by
     unfold eF;rw[if_neg cZ]
     repeat' split
     all_goals omega
    omega
   simp[h2];refine⟨_,ara t.op ks bE (fun h3=>?_) (fun h6=>?_),?_⟩
   ·have:2≤eF t.op:=by
     unfold eF;rw[if_neg cZ,if_neg h3];split<;>omega
    omega
   ·have:eF t.op=3:=by rw[h6];rfl
    omega
   ·cases h3:(Ad t.op ks).2<;>simp[h3]
theorem adX (t:Tm)(ht:t.OK):aj T 164 [cR t] (.tup [.int (jb t).1,.int (jb t).2]):=by
 refine .of_tree rfl (lA 140 (by kernel_rfl)) auA ?_;simp[UE,jb];refine⟨_,Rx 8 t 60 ht (by omega) (by omega) (by omega),?_⟩;by_cases h:60<bo 8 t
 ·have:=(aeX t).2 h;simp[h,this]
 have hn:¬fE 8 t 60<0:=fun e=>h ((aeX t).1 e);simp[h,hn];refine⟨_,Ry 8 t ht (by omega),?_⟩;simp
end Rm
namespace Rm
open Go Go.Proofs Cx
theorem Rw (n:Int):aj T 213 [.int n] (.int (kp n)):=by
 refine .of_tree rfl (lA 151 (by kernel_rfl)) auB ?_;unfold kp;by_cases h1:n< -1099511627776
 ·simp[Lt];split<;>split<;>simp<;>omega
 ·simp[Lt];split<;>split<;>simp<;>omega
theorem ad2 (b:Bool):aj T 214 [.bool b] (bX (eE b)):=by
 refine .of_tree rfl (lA 154 (by kernel_rfl)) auN ?_;cases b<;>simp[UJ]<;>rfl
theorem aq8 (v:Int)(cs:List Cell)(hv:0≤v):aj T 191 [.int v,cells cs] (bX (jm cs v)):=by
 obtain⟨k,rfl⟩:=mT hv;refine .of_tree rfl (lA 150 (by kernel_rfl)) auF ?_;simp[UH,jm,cellAt];by_cases h1:cs.length≤k
 ·have NQ:(cs.length:Int)≤k:=by omega
  simp[h1,NQ]
 have cr:k<cs.length:=by omega
 have NQ:¬(cs.length:Int)≤k:=by omega
 simp[h1,cr,NQ];cases h2:cs[k].known
 ·simp[h2]
 simp[h2];refine⟨_,adZ _,?_⟩;rcases afS k with h3|h3
 ·simp[h3];refine⟨_,Rw _,?_⟩;simp;rfl
 ·simp[h3];by_cases h4:cs[k].n=0
  ·simp[h4];rfl
  ·simp[h4];rfl
theorem ad1 (a b:Cell)(alone:Int)(h:alone=0∨alone=1):aj T 192 [bX a,bX b,.int alone] (bX (if(a.known=true∧a.n=alone)∨(b.known=true∧b.n=alone) then⟨true,alone⟩ else if a.known=true∧b.known=true then⟨true,1-alone⟩ else cP)):=by
 have hw:IntKind.i64.wrap (1-alone)=1-alone:=aN (by omega);refine .of_tree rfl (lA 152 (by kernel_rfl)) auL ?_;obtain⟨ka,na⟩:=a;obtain⟨kb,nb⟩:=b;by_cases e1:na=alone<;>by_cases e2:nb=alone<;>cases ka<;>cases kb<;>simp[UI,e1,e2,hw]<;>rfl
theorem aq7 (a b:Int)(ha:-1099511627776≤a∧a≤1099511627776)(hb:-1099511627776≤b∧b≤1099511627776):aj T 215 [.int a,.int b] (.int (oQ a b)):=by
 refine .of_tree rfl (lA 155 (by kernel_rfl)) auE ?_;by_cases h0:a=0∨b=0
 ·have hz:oQ a b=0:=by
   unfold oQ lG;rcases h0 with rfl|rfl<;>simp
  rw[hz];simp[Lu,h0]
 obtain⟨x,hx⟩:∃x,x=(if a< -a then-a else a):=⟨_,rfl⟩
 obtain⟨y,hy⟩:∃y,y=(if b< -b then-b else b):=⟨_,rfl⟩
 have j6:x=(a.natAbs:Int):=by rw[hx];split<;>omega
 have Jb:y=(b.natAbs:Int):=by rw[hy];split<;>omega
 have mw:1≤x∧x≤1099511627776:=by omega
 have ZX:1≤y∧y≤1099511627776:=by omega
 have wa:IntKind.i64.wrap (0-a)=-a:=by rw[aN (by omega)];omega
 have wb:IntKind.i64.wrap (0-b)=-b:=by rw[aN (by omega)];omega
 have wa':IntKind.i64.wrap (-a)=-a:=aN (by omega);have wb':IntKind.i64.wrap (-b)=-b:=aN (by omega);simp[Lu,h0,wa,wb,wa',wb',←hx,←hy];refine⟨by omega,?_⟩;have hq:Int.tdiv 1099511627776 y=1099511627776/y:=xB (by omega);have zT:0≤(1099511627776:Int)/y:=Int.ediv_nonneg (by omega) (by omega);have ZB:(1099511627776:Int)/y≤1099511627776:=Int.ediv_le_self _ (by omega);have Di:IntKind.i64.wrap (Int.tdiv 1099511627776 y)=1099511627776/y:=by rw[hq];exact aN (by omega)
 have aq:(1099511627776:Int)/y<x↔1099511627776<x*y:=Int.ediv_lt_iff_lt_mul (by omega);obtain⟨m,hm⟩:∃m:Nat,m=a.natAbs*b.natAbs:=⟨_,rfl⟩
 have Zm:(m:Int)=x*y:=by rw[hm,j6,Jb];exact Int.natCast_mul _ _
 have hp:oQ a b=if(a<0↔b<0) then lG m else-lG m:=by
  unfold oQ;rw[←hm];by_cases c1:a<0<;>by_cases c2:b<0<;>simp[c1,c2]
 have hpn:lG m=if 1099511627776<x*y then 1099511627776 else x*y:=by
  unfold lG;rw[←Zm];split<;>split<;>omega
 rw[hp,hpn,Di];by_cases hc:1099511627776<x*y
 ·have ls:=aq.2 hc;rw[if_pos hc,if_pos ls,if_pos ls];split<;>rfl
 ·have ls:¬(1099511627776:Int)/y<x:=fun e=>hc (aq.1 e);rw[if_neg hc,if_neg ls,if_neg ls];have zR:0≤x*y:=by rw[←Zm];omega
  split
  ·exact aN (by omega)
  ·rw[aN (n:=-x) (by omega),Int.neg_mul];exact aN (by omega)
theorem arc (op a b:Int)(ha:9≤op→-1099511627776≤a∧a≤1099511627776)(hb:9≤op→-1099511627776≤b∧b≤1099511627776)(ho:7≤op):
 aj T 193 [.int op,.int a,.int b] (bX (if op=7 then eE (decide (a<b)) else if op=8 then eE (decide (a=b)) else⟨true,qT op a b⟩)):=by
 refine .of_tree rfl (lA 153 (by kernel_rfl)) auM ?_;unfold qT;by_cases h7:op=7
 ·simp[sA,h7];refine⟨_,ad2 _,?_⟩;simp
  try rfl
 by_cases h8:op=8
 ·simp[sA,h8];refine⟨_,ad2 _,?_⟩;simp
  try rfl
 have a1:=ha (by omega);have b1:=hb (by omega);have w1:IntKind.i64.wrap (a+b)=a+b:=aN (by omega);have w2:IntKind.i64.wrap (a-b)=a-b:=aN (by omega);by_cases h9:op=9
 ·simp[sA,h9,w1];refine⟨_,Rw _,?_⟩;simp
  try rfl
 by_cases m3:op=10
 ·simp[sA,m3,w2];refine⟨_,Rw _,?_⟩;simp
  try rfl
 by_cases m4:op=11
 ·simp[sA,m4];refine⟨_,aq7 a b a1 b1,?_⟩;simp
  try rfl
 by_cases ln:op=12
 ·simp[sA,ln];have e:(if b<a then D.int b else D.int a)=D.int (min a b):=by
   split
   ·rw[Bi (by omega)]
   ·rw[Bh (by omega)]
  rw[e];rfl
 ·simp[sA,h7,h8,h9,m3,m4,ln];have e:(if a<b then D.int b else D.int a)=D.int (max a b):=by
   split
   ·rw[Ww (by omega)]
   ·rw[LR (by omega)]
  rw[e];rfl
end Rm
namespace Rm
open Go Go.Proofs Cx
theorem ad0:∀(L:Nat) (cs:List Cell) (t:Tm) (k:Int),t.OK→bo L t≤60→bt L t=(k,0)→aj T 166 [cR t,cells cs] (bX (aZ L cs t))
 |0,cs,t,k,ht,hm,hc=>by simp[bo] at hm
 |L+1,cs,t,k,ht,hm,hc=>by
  refine .of_tree rfl (lA 149 (by kernel_rfl)) auI ?_;obtain⟨hl,hp⟩:=Dz hm;obtain⟨ha,_⟩:=H3 hc;obtain⟨hn,alE⟩:=B2 hc;have eV:∀a,a∈t.args→aj T 166 [cR a,cells cs] (bX (aZ L cs a)):=fun a cA=>ad0 L cs a (bt L a).1 (ht.arg cA) (hp a cA) (by rw[←ha a cA]);have nk:∀a,a∈t.args→pz (bt L a).1 (aZ L cs a):=fun a cA=>NG cs (show bt L a=((bt L a).1,0) by rw[←ha a cA]);by_cases dc:t.op=0∨t.op=1
  ·have e1:aZ (L+1) cs t=⟨true,t.n⟩:=by rw[vn,if_pos dc]
   rw[e1];rcases dc with h|h<;>simp[Fx,h]<;>rfl
  have o0:t.op≠0:=fun h=>dc (.inl h);have o1:t.op≠1:=fun h=>dc (.inr h);by_cases o2:t.op=2
  ·have hv:0≤t.n:=by
    cases hn with
    |var h0 ha hn=>exact hn.1
    |_=>omega
   have e1:aZ (L+1) cs t=jm cs t.n:=by rw[vn,if_neg dc,if_pos o2]
   rw[e1];simp[Fx,o2];refine⟨_,aq8 t.n cs hv,?_⟩;simp
   try rfl
  have e1:aZ (L+1) cs t=if t.op=6∧(bl (t.args.map (aZ L cs)) 0).known=true then bl (t.args.map (aZ L cs)) (2-(bl (t.args.map (aZ L cs)) 0).n).toNat else dR t.op (t.args.map (aZ L cs)):=by
   rw[vn,if_neg dc,if_neg o2]
  rw[e1];simp[Fx,o0,o1,o2];refine aH.forRounds t.args.length (fun k=>[.none,.int k]) (fun k=>[cells ((t.args.map (aZ L cs)).take k)]) ?_ (fun k hk=>?_) ?_
  ·simp[cells]
  ·have hw:=ba hk (by omega);have cI:=cq hk;have hr:=eV _ cI;have CM:(t.args.map (aZ L cs))[k]'(by simpa using hk)=aZ L cs t.args[k]:=by simp
   have O5:(t.args.map (aZ L cs)).take (k+1)=(t.args.map (aZ L cs)).take k++[aZ L cs t.args[k]]:=by
    rw[gU (by simpa using hk),CM]
   have hlen:((t.args.map (aZ L cs)).take k).length=k:=by simp;omega
   rw[O5];generalize (t.args.map (aZ L cs)).take k=A at*;generalize aZ L cs t.args[k]=c at*;simp[sk,oW,hk];refine⟨_,hr,?_⟩;simp[hlen,hk,hw,cells];omega
  ·have lA:(t.args.map (aZ L cs)).length=t.args.length:=by simp
   have e0:(t.args.map (aZ L cs)).take t.args.length=t.args.map (aZ L cs):=by rw[←lA,xH]
   rw[e0];have val:∀(k:Int) (c:Cell),pz k c→c=cP∨c.known=true∧(k=1→c.n=0∨c.n=1)∧(k=0→-1099511627776≤c.n∧c.n≤1099511627776):=by
    intro k c hr;cases e:c.known with
    |false=>exact .inl (hr.1 e)
    |true=>exact .inr ⟨rfl,hr.2 e⟩
   by_cases h7:7≤t.op
   ·obtain⟨k',hk,Ye,h9⟩:∃k',t.args.map (fun a=>(bt L a).1)=[k',k']∧t.op≤13∧(9≤t.op→k'=0):=by
     cases hn with
     |less o hk=>exact⟨0,hk,by omega,fun _=>rfl⟩
     |equal k o hk=>exact⟨k,hk,by omega,fun _=>by omega⟩
     |num o hk=>exact⟨0,hk,by omega,fun _=>rfl⟩
     |log h0 hk=>omega
     |_=>omega
    obtain⟨a,b,fV,ea,eb⟩:=tS hk;have mi:t.args.length=2:=by rw[fV];rfl
    have ra:=nk a (by simp[fV]);rw[ea] at ra;have rb:=nk b (by simp[fV]);rw[eb] at rb;rw[fV];simp only[iX,Bl,mU,qK];generalize aZ L cs a=A at*;generalize aZ L cs b=B at*;have o3:¬t.op=3:=by omega
    have o4:¬t.op=4:=by omega
    have o5:¬t.op=5:=by omega
    have o6:¬t.op=6:=by omega
    have ec:dR t.op [A,B]=if A.known=false∨B.known=false then cP else if t.op=7 then eE (decide (A.n<B.n)) else if t.op=8 then eE (decide (A.n=B.n)) else⟨true,qT t.op A.n B.n⟩:=by
     unfold dR;rw[if_neg o3,if_neg (by omega),if_neg o6];have:¬(t.op=4∨t.op=5):=by omega
     rw[if_neg this];rfl
    rw[if_neg (by omega),ec];cases e1:A.known<;>cases e2:B.known<;>simp[sk,oW,mi,o3,o4,o5,o6,cells,e1,e2]
    ·have b1:9≤t.op→-1099511627776≤A.n∧A.n≤1099511627776:=fun h=>(ra.2 e1).2 (h9 h);have b2:9≤t.op→-1099511627776≤B.n∧B.n≤1099511627776:=fun h=>(rb.2 e2).2 (h9 h);refine⟨_,arc t.op A.n B.n b1 b2 h7,?_⟩;simp
     try rfl
   cases hn with
   |int h0 ha hn=>omega
   |bool h0 ha hn=>omega
   |var h0 ha hn=>omega
   |not o3 hk=>
    obtain⟨a,fV,e⟩:=aaB hk;have mi:t.args.length=1:=by rw[fV];rfl
    have ra:=nk a (by simp[fV]);rw[e] at ra;rw[fV];simp only[iX,Bl,mU,qK];generalize aZ L cs a=A at*;rcases val _ _ ra with rfl|⟨h1,h2,_⟩
    ·simp[sk,oW,mi,o3,dR,cells,bl,cP]
    ·obtain⟨ka,na⟩:=A;simp at h1;subst h1;rcases h2 rfl with h|h<;>simp at h<;>subst h<;>simp[sk,oW,mi,o3,dR,cells,bl]<;>rfl
   |log Ao hk=>
    obtain⟨a,b,fV,ea,eb⟩:=tS hk;have mi:t.args.length=2:=by rw[fV];rfl
    have ra:=nk a (by simp[fV]);rw[ea] at ra;have rb:=nk b (by simp[fV]);rw[eb] at rb;rw[fV];simp only[iX,Bl,mU,qK];generalize aZ L cs a=A at*;generalize aZ L cs b=B at*;have key:∀al:Int,(al=0∨al=1)→t.op=4+al→(if(A.known=true∧A.n=al)∨(B.known=true∧B.n=al) then(⟨true,al⟩:Cell) else if A.known=true∧B.known=true then⟨true,1-al⟩ else cP)=dR t.op [A,B]:=by
     intro al lq cZ;rw[cZ];have v3:∀c:Cell,pz 1 c→c=cP∨c=⟨true,0⟩∨c=⟨true,1⟩:=by
        intro c hr;rcases val _ _ hr with h|⟨h,h2,_⟩
        ·exact .inl h
        ·rcases h2 rfl with h3|h3
         ·exact .inr (.inl ((Gd _ _).2 ⟨h,h3⟩))
         ·exact .inr (.inr ((Gd _ _).2 ⟨h,h3⟩))
     rcases v3 _ ra with rfl|rfl|rfl<;>rcases v3 _ rb with rfl|rfl|rfl<;>rcases lq with rfl|rfl<;>rfl
    rcases Ao with o|o
    ·rw[if_neg (by omega),←key 0 (.inl rfl) o];simp[sk,oW,mi,o,cells];refine⟨_,ad1 A B 0 (.inl rfl),?_⟩;simp
     try rfl
    ·rw[if_neg (by omega),←key 1 (.inr rfl) o];simp[sk,oW,mi,o,cells];refine⟨_,ad1 A B 1 (.inr rfl),?_⟩;simp
     try rfl
   |ite k o6 hk=>
    obtain⟨a,b,c,fV,ea,eb,ec⟩:=Jm hk;have mi:t.args.length=3:=by rw[fV];rfl
    have ra:=nk a (by simp[fV]);rw[ea] at ra;have w2:IntKind.i64.wrap 2=2:=aN (by omega);rw[fV];simp only[iX,Bl,mU,qK];generalize aZ L cs a=A at*;generalize aZ L cs b=B at*;generalize aZ L cs c=C at*;rcases val _ _ ra with rfl|⟨h1,h2,_⟩
    ·by_cases g:B.known=true∧B=C
     ·have gg:=g.2;have gk:=g.1;subst gg;simp[sk,oW,mi,o6,dR,cells,bl,cP,gk];obtain⟨kb,nb⟩:=B;simp at gk;subst gk;rfl
     ·have g':¬(B.known=true∧C.known=true∧B.n=C.n):=fun h=>g ⟨h.1,(Gd B C).2 ⟨by rw[h.1,h.2.1],h.2.2⟩⟩;rw[if_neg (by simp[bl,cP])];unfold dR;rw[if_neg (by omega),if_neg (by omega),if_pos o6];simp only[bl,be];simp;rw[if_neg g];cases e1:B.known<;>cases e2:C.known<;>simp[sk,oW,mi,o6,cells,cP,e1,e2];have:¬B.n=C.n:=fun h=>g' ⟨e1,e2,h⟩;simp[this]
    ·obtain⟨ka,na⟩:=A;simp at h1;subst h1;rcases h2 rfl with h|h<;>simp at h<;>subst h<;>simp[sk,oW,mi,w2,o6,dR,cells,bl]<;>rfl
   |less o hk=>omega
   |equal k o hk=>omega
   |num o hk=>omega
theorem aq6 (t:Tm)(cs:List Cell)(ht:t.OK):aj T 142 [cR t,cells cs] (bX (om cs t)):=by
 refine .of_tree rfl (lA 148 (by kernel_rfl)) auC ?_;simp[UF,om];refine⟨_,adX t ht,?_⟩;by_cases h:(jb t).2=0
 ·obtain⟨h1,h2⟩:=Xi h;simp[h];refine⟨_,ad0 8 cs t _ ht h1 h2,?_⟩;simp
  try rfl
 ·simp[h]
  try rfl
end Rm
namespace Rm
open Go Go.Proofs Cx
theorem Rz (ask:Int):aj T 98 [.int ask] (.bool (decide (0≤ask∧ask<22))):=by
 refine .of_tree rfl (lA 132 (by kernel_rfl)) auR ?_;by_cases h:0≤ask<;>by_cases h2:ask<22<;>simp[UN,h,h2]
theorem adM (ask:Int)(h:0≤ask∧ask<22):aj T 144 [.int ask] (.bool (!hasB oO ask)):=by
 refine .of_tree rfl (lA 147 (by kernel_rfl)) at2 ?_;have hb:hasB oO ask=true↔ask=6∨ask=7∨ask=10∨ask=12∨ask=13∨ask=14∨ask=15∨ask=16∨ask=20∨ask=21:=by
  simp[hasB,oO];omega
 by_cases hm:ask=6∨ask=7∨ask=10∨ask=12∨ask=13∨ask=14∨ask=15∨ask=16∨ask=20∨ask=21
 ·rw[hb.2 hm];rcases hm with h|h|h|h|h|h|h|h|h|h<;>subst h<;>simp[Lp]
 ·have hf:hasB oO ask=false:=by
   cases e:hasB oO ask
   ·rfl
   ·exact absurd (hb.1 e) hm
  rw[hf];simp only[not_or] at hm;obtain⟨a1,a2,a3,a4,a5,a6,a7,a8,a9,gV⟩:=hm;simp[Lp,a1,a2,a3,a4,a5,a6,a7,a8,a9,gV];have hw:=cm ask 0 21;have Pd:wi ask 0 21=true:=by simp[wi];omega
  rw[Pd] at hw;exact hw
theorem arf (ask:Int):aj T 165 [.int ask] (.tup [.int (eD ask).1,.bool (eD ask).2]):=by
 refine .of_tree rfl (lA 146 (by kernel_rfl)) auT ?_;simp[UP,eD];refine⟨_,Rz ask,?_⟩;by_cases h:0≤ask∧ask<22
 ·have h1:¬(ask<0∨22≤ask):=by omega
  simp[h,h1];refine⟨_,adM ask h,?_⟩;cases e:hasB oO ask<;>simp[e]
 ·have h1:ask<0∨22≤ask:=by omega
  simp[h,h1]
theorem ad4 (o:Order)(ask:Int)(hl:o.rules.length≤4294967296):aj T 143 [gq o,.int ask] (.int (kD o.rules.length (kO o ask))):=by
 refine .of_tree rfl (lA 139 (by kernel_rfl)) auS ?_;simp[UO];refine .scan o.rules.length (fun k=>kO o ask k=false) (fun k=>[.int 0,.int k]) (fun _=>[]) ?_ (fun k hk hj ho=>?_) (fun k hk hj ho=>?_) (fun hj=>?_)
 ·simp
 ·have hw:=ba hk hl;simp[kO,hk] at ho;simp[Sg,EJ,hk,hw,ho]
 ·have he:=Je hk (by simpa using ho) hj;simp[kO,hk] at ho;simp[Sg,EJ,hk,he,ho]
 ·have he:=Jd hj;simp[Sg,EJ,he]
theorem arh (o:Order)(ask:Int)(ho:o.OK)(hl:o.rules.length≤4294967296):aj T 141 [gq o,.int ask] (.int (findF o ask).2):=by
 refine .of_tree rfl (lA 138 (by kernel_rfl)) auU ?_;simp[UQ,findF];refine⟨_,Rz ask,?_⟩;have ht:(eD ask).2=decide (0≤ask∧ask<22):=by
  unfold eD;by_cases h:ask<0∨22≤ask
  ·rw[if_pos h];have:¬(0≤ask∧ask<22):=by omega
   simp[this]
  ·rw[if_neg h];have:0≤ask∧ask<22:=by omega
   split<;>simp[this]
 by_cases h:0≤ask∧ask<22
 ·simp[h,ht];refine⟨_,ad4 o ask hl,?_⟩;rcases wg o.rules.length (kO o ask) with⟨h1,h2⟩|⟨m,hm,h1,h2,h3⟩
  ·rw[h1];simp
  ·rw[h1];have vO:¬((m:Int)<0):=by omega
   have Db:o.rules[m].term.OK:=KY ho hm;simp[hm,ur,vO];refine⟨_,adX _ Db,_,arf ask,?_⟩;by_cases h4:(jb o.rules[m].term).2=0<;>by_cases h5:(jb o.rules[m].term).1=(eD ask).1<;>simp[h4,h5]
 ·simp[h,ht]
theorem ard (o:Order)(ask:Int)(cs:List Cell)(ho:o.OK)(hl:o.rules.length≤4294967296):aj T 100 [gq o,.int ask,cells cs] (.tup [bX (lX o ask cs).1,.int (lX o ask cs).2]):=by
 refine .of_tree rfl (lA 137 (by kernel_rfl)) auP ?_;simp[UL];refine⟨_,arh o ask ho hl,?_⟩;by_cases h:(findF o ask).2=0
 ·have hq:(eD ask).2=true:=by
   unfold findF at h;cases e:(eD ask).2
   ·rw[if_pos e] at h;cases h
   ·rfl
  have hr:0≤ask∧ask<22:=by
   unfold eD at hq;split at hq
   ·cases hq
   ·omega
  have hix:∃m:Nat,m<o.rules.length∧kD o.rules.length (kO o ask)=m∧(findF o ask).1=ur o m:=by
   unfold findF at h ⊢;rw[if_neg (by rw[hq];decide)] at h ⊢;split at h
   ·cases h
   rename_i h1;rw[if_neg h1];split at h
   ·cases h
   rename_i h2;rw[if_neg h2];rcases wg o.rules.length (kO o ask) with⟨g1,g2⟩|⟨m,hm,g1,g2,g3⟩
   ·exact absurd (by rw[g1];decide) h1
   ·exact⟨m,hm,g1,by rw[g1]⟩
  obtain⟨m,hm,g1,g2⟩:=hix;have Db:o.rules[m].term.OK:=KY ho hm;have ma:(findF o ask).1=o.rules[m].term:=by rw[g2];simp[ur,hm]
  simp[h,lX,ma];refine⟨_,ad4 o ask hl,?_⟩;rw[g1];simp[hm];refine⟨_,aq6 _ cs Db,?_⟩;generalize om cs o.rules[m].term=c;have kz:=adM ask hr;have bn:(eD ask).1=0↔hasB oO ask=true:=by
   unfold eD;rw[if_neg (by omega)];split
   ·rename_i e;simp[e]
   ·rename_i e;simp[e]
  obtain⟨kn,n⟩:=c;cases hb:hasB oO ask
  ·have dS:¬(eD ask).1=0:=fun e=>by rw[bn.1 e] at hb;cases hb
   rw[hb] at kz;cases kn<;>simp[dS]
   all_goals first|rfl|(refine⟨_,kz,?_⟩;rfl)|(refine⟨_,kz,?_⟩;simp;done)|(refine⟨_,kz,?_⟩;simp;rfl)
  ·have dS:=bn.2 hb;rw[hb] at kz;cases kn
   ·simp[dS]
    first|rfl|(refine⟨_,kz,?_⟩;rfl)|(refine⟨_,kz,?_⟩;simp;done)|(refine⟨_,kz,?_⟩;simp;rfl)
   ·by_cases h2:n<0
    ·have:min (max n 0) 20000=0:=by omega
     simp[dS,h2,this]
     first|rfl|(refine⟨_,kz,?_⟩;rfl)|(refine⟨_,kz,?_⟩;simp;done)|(refine⟨_,kz,?_⟩;simp;rfl)
    ·by_cases h3:20000<n
     ·have:min (max n 0) 20000=20000:=by omega
      simp[dS,h2,h3,this]
      first|rfl|(refine⟨_,kz,?_⟩;rfl)|(refine⟨_,kz,?_⟩;simp;done)|(refine⟨_,kz,?_⟩;simp;rfl)
     ·have:min (max n 0) 20000=n:=by omega
      simp[dS,h2,h3,this];exact⟨⟨_,kz⟩,rfl⟩
 ·simp[h,lX]
  try rfl
end Rm
namespace Rm
open Go Go.Proofs Cx
def bQ (y m d:Int):Int:=if m<3 then 365*(y-1)+(y-1)/4-(y-1)/100+(y-1)/400+(153*(m+9)+2)/5+d-1-730425 else 365*y+y/4-y/100+y/400+(153*(m-3)+2)/5+d-1-730425
theorem PL (y m d:Int)(hy:1≤y∧y≤10000)(hm:1≤m∧m≤12)(hd:-1000≤d∧d≤1000):wB y m d=bQ y m d:=by
 have w:∀x:Int,-1000000000≤x→x≤1000000000→IntKind.i64.wrap x=x:=fun x a b=>aN (by omega);have t:∀x y:Int,0≤x→x.tdiv y=x/y:=fun x y hx=>xB hx;have h:aj T 207 [.int y,.int m,.int d] (.int (bQ y m d)):=by
  refine .of_tree rfl Mo TK ?_;unfold bQ;by_cases h3:m<3
  ·simp[A5,h3];rw[w (y-1) (by omega) (by omega),w (m+12) (by omega) (by omega)];rw[w (m+12-3) (by omega) (by omega),w (365*(y-1)) (by omega) (by omega),w (153*(m+12-3)) (by omega) (by omega)];rw[w (153*(m+12-3)+2) (by omega) (by omega),t (y-1) 4 (by omega),t (y-1) 100 (by omega),t (y-1) 400 (by omega),t _ 5 (by omega)];rw[w ((y-1)/4) (by omega) (by omega),w ((y-1)/100) (by omega) (by omega),w ((y-1)/400) (by omega) (by omega),w ((153*(m+12-3)+2)/5) (by omega) (by omega)];rw[w (365*(y-1)+(y-1)/4) (by omega) (by omega),w (365*(y-1)+(y-1)/4-(y-1)/100) (by omega) (by omega),w (365*(y-1)+(y-1)/4-(y-1)/100+(y-1)/400) (by omega) (by omega)];rw[w (365*(y-1)+(y-1)/4-(y-1)/100+(y-1)/400+(153*(m+12-3)+2)/5) (by omega) (by omega),w (365*(y-1)+(y-1)/4-(y-1)/100+(y-1)/400+(153*(m+12-3)+2)/5+d) (by omega) (by omega),w (365*(y-1)+(y-1)/4-(y-1)/100+(y-1)/400+(153*(m+12-3)+2)/5+d-1) (by omega) (by omega),w _ (by omega) (by omega)];omega
  ·simp[A5,h3];rw[w (m-3) (by omega) (by omega),w (365*y) (by omega) (by omega),w (153*(m-3)) (by omega) (by omega)];rw[w (153*(m-3)+2) (by omega) (by omega),t y 4 (by omega),t y 100 (by omega),t y 400 (by omega),t _ 5 (by omega)];rw[w (y/4) (by omega) (by omega),w (y/100) (by omega) (by omega),w (y/400) (by omega) (by omega),w ((153*(m-3)+2)/5) (by omega) (by omega)];rw[w (365*y+y/4) (by omega) (by omega),w (365*y+y/4-y/100) (by omega) (by omega),w (365*y+y/4-y/100+y/400) (by omega) (by omega)];rw[w (365*y+y/4-y/100+y/400+(153*(m-3)+2)/5) (by omega) (by omega),w (365*y+y/4-y/100+y/400+(153*(m-3)+2)/5+d) (by omega) (by omega),w (365*y+y/4-y/100+y/400+(153*(m-3)+2)/5+d-1) (by omega) (by omega),w _ (by omega) (by omega)]
 have h2:=h.det (An y m d);simpa using h2.symm
def mG (K:Int):Int:=365*(K/12)+K/12/4-K/12/100+K/12/400+(153*(K%12)+2)/5-730425
theorem tW (y m d:Int)(hm:1≤m∧m≤12):bQ y m d=mG (12*y+m-3)+d-1:=by
 unfold bQ mG;by_cases h:m<3
 ·rw[if_pos h];have e1:(12*y+m-3)/12=y-1:=by omega
  have e2:(12*y+m-3)%12=m+9:=by omega
  rw[e1,e2];omega
 ·rw[if_neg h];have e1:(12*y+m-3)/12=y:=by omega
  have e2:(12*y+m-3)%12=m-3:=by omega
  rw[e1,e2];omega
theorem apx (K:Int)(hK:0≤K):mG K+28≤mG (K+1):=by
 unfold mG;by_cases h:K%12=11
 ·have e1:(K+1)/12=K/12+1:=by omega
  have e2:(K+1)%12=0:=by omega
  rw[e1,e2,h];generalize K/12=Y;omega
 ·have e1:(K+1)/12=K/12:=by omega
  have e2:(K+1)%12=K%12+1:=by omega
  rw[e1,e2];generalize K/12/4=a;generalize K/12/100=b;generalize K/12/400=c;omega
theorem aaW (K:Int)(hK:0≤K):∀n:Nat,mG K+28*n≤mG (K+n)
 |0=>by simp
 |n+1=>by
  have h1:=aaW K hK n;have h2:=apx (K+n) (by omega);have e:K+((n+1:Nat):Int)=K+n+1:=by omega
  rw[e];omega
theorem apw (y m:Int)(hy:1≤y∧y≤9000)(hm:1≤m∧m≤12):rI y m=mG (12*y+m-3+1)-mG (12*y+m-3):=by
 unfold rI;by_cases h:m=12
 ·rw[if_pos h];subst h;unfold mG;have e1:(12*y+12-3)/12=y:=by omega
  have e2:(12*y+12-3)%12=9:=by omega
  have e3:(12*y+12-3+1)/12=y:=by omega
  have e4:(12*y+12-3+1)%12=10:=by omega
  rw[e1,e2,e3,e4];omega
 ·rw[if_neg h];have w1:IntKind.i64.wrap (m+1)=m+1:=aN (by omega);rw[w1,PL y (m+1) 1 (by omega) (by omega) (by omega),PL y m 1 (by omega) (by omega) (by omega),tW _ _ _ (by omega),tW _ _ _ (by omega)];have e:12*y+(m+1)-3=12*y+m-3+1:=by omega
  rw[e];have hb:∀K:Int,0≤K→K≤200000→-10000000≤mG K∧mG K≤10000000:=by
   intro K h1 h2;unfold mG;omega
  have b1:=hb (12*y+m-3+1) (by omega) (by omega);have b2:=hb (12*y+m-3) (by omega) (by omega);rw[aN (by omega)];omega
end Rm
