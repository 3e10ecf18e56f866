/-
  Shared texts of this claim.
-/
import Derived.Test.YtefchokhgdmamaaGreatDoorHAP
set_option linter.unusedSimpArgs false
set_option linter.unusedVariables false
namespace Rm
open Go Go.Proofs Cx
theorem Zi (b:Bool):aw T 126 [.bool b] (cV (gI b)):=by
 refine .of_tree rfl (lA 17 (by kernel_rfl)) ant ?_;cases b<;>simp[QY,gI]<;>rfl
def nr (kind sign:Int)(x:Fact):Bool:=decide (x.kind=kind)&&decide (x.at_=sign)
def kS (f:File)(kind sign:Int):Cell:=match f.facts.find? (nr kind sign) with|none=>eR|some x=>gI (decide (x.n≠0))
theorem Bq {α:Type}{p:α→Bool}:∀{l:List α} {k:Nat} (hk:k<l.length),p l[k]=true→(∀j (hj:j<k),p (l[j]'(by omega))=false)→l.find? p=some l[k]
 |a::l,0,hk,h,hj=>by simp at h;simp[h]
 |a::l,k+1,hk,h,hj=>by
  have h0:=hj 0 (by omega);simp at h0;simp only[List.find?_cons,h0,List.getElem_cons_succ];exact Bq (by simpa using hk) (by simpa using h) (fun j bp=>by simpa using hj (j+1) (by omega))
theorem K9 {α:Type}{p:α→Bool}{l:List α}(h:∀j (hj:j<l.length),p l[j]=false):l.find? p=none:=by
 rw[sA];intro x hx;obtain⟨j,hj,rfl⟩:=gy hx;rw[h j hj];decide
theorem D2 (f:File)(kind sign:Int)(hl:f.facts.length≤4294967296):aw T 127 [dg f,.int kind,.int sign] (cV (kS f kind sign)):=by
 refine .of_tree rfl (lA 18 (by kernel_rfl)) anq ?_;simp[QW];refine .scan f.facts.length (fun k=>nr kind sign (f.facts.getD k default)=false) (fun k=>[.int k]) (fun _=>[cV eR]) ?_ (fun k hk hj ho=>?_) (fun k hk hj ho=>?_) (fun hj=>?_)
 ·simp
 ·have hw:=bS hk hl;simp[hk,nr] at ho;by_cases h1:f.facts[k].kind=kind<;>by_cases h2:f.facts[k].at_=sign
  ·exact absurd h2 (ho h1)
  all_goals simp[Pk,DQ,hk,hw,h1,h2]
 ·have hw:=bS hk hl;have hf:kS f kind sign=gI (decide (f.facts[k].n≠0)):=by
   unfold kS;rw[Bq hk (by simpa [hk] using ho) (fun j bp=>by have:=hj j bp;simpa [show j<f.facts.length by omega] using this)]
  simp[hk,nr] at ho;simp[Pk,DQ,hk,hw,ho,hf];refine⟨_,Zi _,?_⟩;simp
  try rfl
 ·have hf:kS f kind sign=eR:=by
   unfold kS;rw[K9 (fun j bp=>by have:=hj j bp;simpa [bp] using this)]
  simp[Pk,DQ,hf]
  try rfl
def ma (r:Realm)(c:Int):Int:=if aH c r.cities.length=true then(r.cities.getD c.toNat default).order else-1
theorem qA (r:Realm)(c:Int):aw T 106 [bF r,.int c] (.int (ma r c)):=by
 refine .of_tree rfl (lA 15 (by kernel_rfl)) anc ?_;simp[QJ,ma];refine⟨_,fQ c r.cities.length,?_⟩;cases h:aH c r.cities.length
 ·simp[h]
 ·simp[aH] at h;have h1:c.toNat<r.cities.length:=by omega
  simp[h,h1]
def Jt (day:Int)(l:List Sign):List Sign:=l.takeWhile fun s=>decide (s.day≤day)
def upA (day:Int)(l:List Act):List Act:=l.takeWhile fun s=>decide (s.day≤day)
def pQ (n:Nat)(a:Alter):Bool:=decide (a.at_≤(n:Int))
def rh (n:Nat)(x:Fact):Bool:=aH x.at_ n
def vc (f:File)(day:Int):File:=
 ⟨f.bill,Jt day f.signs,f.alters.filter (pQ (Jt day f.signs).length),upA day f.acts,f.facts.filter (rh (Jt day f.signs).length)⟩
theorem Jq {α:Type}(p:α→Bool):∀(l:List α),∃m,m≤l.length∧l.takeWhile p=l.take m∧(∀k (hk:k<l.length),k<m→p l[k]=true)∧(∀hk:m<l.length,p l[m]=false)
 |[]=>⟨0,by simp,by simp,fun k hk=>by simp at hk,fun hk=>by simp at hk⟩
 |a::l=>by
  by_cases h:p a=true
  ·obtain⟨m,h1,h2,h3,h4⟩:=Jq p l;refine⟨m+1,by simp;omega,by simp[h,h2],fun k hk hm=>?_,fun hk=>?_⟩
   ·cases k with
    |zero=>simpa using h
    |succ k=>simpa using h3 k (by simpa using hk) (by omega)
   ·simpa using h4 (by simpa using hk)
  ·refine⟨0,by simp,by simp[h],fun k hk hm=>by omega,fun hk=>by simpa using h⟩
theorem ZY {α:Type}(p:α→Bool)(l:List α){k:Nat}(hk:k<l.length):(l.take (k+1)).filter p=(l.take k).filter p++if p l[k] then[l[k]] else[]:=by
 rw[uV hk,EB]
 congr 1
 cases h:p l[k]<;>simp[h]
def AE (b:Bill)(w x y z:D):D:=.agg [.int b.drawer,.int b.drawee,.int b.payee,.int b.sum,.int b.currency,.int b.tenor.kind,.int b.tenor.n,.int b.tenor.unit,.int b.day,.int b.city,.int b.pay,.int b.need,.int b.rate,.int b.flags,.int b.parts,w,x,y,z]
def nC {α:Type}(l:List α):D:=match l with|[]=>.list []|_=>.none
@[simp] theorem asU {α:Type}:nC ([]:List α)=.list []:=rfl
@[simp] theorem asT {α:Type}(l:List α)(x:α):nC (l++[x])=.none:=by cases l<;>rfl
theorem alh (f:File)(day:Int)(h1:f.signs.length≤4294967295)(h2:f.acts.length≤4294967295)(h3:f.alters.length≤4294967295)(h4:f.facts.length≤4294967295):aw T 103 [dg f,.int day] (dg (vc f day)):=by
 refine .of_tree rfl (lA 9 (by kernel_rfl)) anp ?_;simp[QV];obtain⟨m,hm,hS,Up,yA⟩:=Jq (fun s:Sign=>decide (s.day≤day)) f.signs;obtain⟨n,hn,hA,hA1,hA2⟩:=Jq (fun s:Act=>decide (s.day≤day)) f.acts;refine aS.forRounds m (fun k=>[.int k]) (fun k=>[signs (f.signs.take k),AE f.bill (nC (f.signs.take k)) (.list []) (.list []) (.list [])]) ?_ (fun k hk=>?_) ?_
 ·simp[AE,signs]
  try rfl
 ·have bU:k<f.signs.length:=by omega
  have hw:=bS bU (by omega);have hd:=Up k bU hk;simp at hd;have gC:¬day<f.signs[k].day:=by omega
  have hle:(k:Int)+1≤4294967296:=by omega
  have ht:=uV bU;rw[ht];have hlen:(f.signs.take k).length=k:=by simp;omega
  generalize f.signs.take k=A at*;simp[Pf,DM,bU,hw,gC,hlen];exact⟨hle,by simp[signs],rfl⟩
 have hSl:(f.signs.take m).length≤4294967295:=by rw[db];omega
 have hAt:vc f day=⟨f.bill,f.signs.take m,f.alters.filter (pQ (f.signs.take m).length),f.acts.take n,f.facts.filter (rh (f.signs.take m).length)⟩:=by
  unfold vc Jt upA;rw[hS,hA]
 rw[hAt];generalize f.signs.take m=S at*;have yz:(f.acts.take n).length≤4294967295:=by rw[db];omega
 by_cases fu:m<f.signs.length
 case' pos=>
  have hd:=yA fu;simp at hd;simp[Pf,DM,fu,hd];generalize D.bool true=bb
 case' neg=>
  have Cd:m=f.signs.length:=by omega
  simp[Pf,DM,fu,Cd];generalize D.bool false=bb
 all_goals
  refine aS.forRounds n (fun k=>[.int k]) (fun k=>[acts (f.acts.take k),AE f.bill (nC S) (.list []) (nC (f.acts.take k)) (.list [])]) ?_ (fun k hk=>?_) ?_
  ·simp[acts]
  ·have bU:k<f.acts.length:=by omega
   have hw:=bS bU (by omega);have hd:=hA1 k bU hk;simp at hd;have gC:¬day<f.acts[k].day:=by omega
   have hle:(k:Int)+1≤4294967296:=by omega
   have ht:=uV bU;rw[ht];have hlen:(f.acts.take k).length=k:=by simp;omega
   generalize f.acts.take k=A at*;simp[Pg,DN,bU,hw,gC,hlen];exact⟨hle,by simp[acts],rfl⟩
  generalize f.acts.take n=A at*;by_cases iX:n<f.acts.length
  case' pos=>
   have hd:=hA2 iX;simp at hd;simp[Pg,DN,iX,hd];generalize D.bool true=bc
  case' neg=>
   have oN:n=f.acts.length:=by omega
   simp[Pg,DN,iX,oN];generalize D.bool false=bc
  all_goals
   refine aS.forRounds f.alters.length (fun k=>[.int k]) (fun k=>[AE f.bill (nC S) (nC ((f.alters.take k).filter (pQ S.length))) (nC A) (.list []),alters ((f.alters.take k).filter (pQ S.length))]) ?_ (fun k hk=>?_) ?_
   ·simp[alters]
   ·have hw:=bS hk (by omega);have ht:=ZY (pQ S.length) f.alters hk;rw[ht];have hlen:((f.alters.take k).filter (pQ S.length)).length≤k:=cC (JI _ _) (by simp;omega);generalize (f.alters.take k).filter (pQ S.length)=B at*;by_cases hd:f.alters[k].at_≤(S.length:Int)
    ·simp[Ph,DO,pQ,hk,hw,hd];exact⟨by omega,rfl,by simp[alters]⟩
    ·simp[Ph,DO,pQ,hk,hw,hd]
   simp[Ph,DO];generalize f.alters.filter (pQ S.length)=B at*;refine aS.forRounds f.facts.length (fun k=>[.int k]) (fun k=>[AE f.bill (nC S) (nC B) (nC A) (nC ((f.facts.take k).filter (rh S.length))),facts ((f.facts.take k).filter (rh S.length))]) ?_ (fun k hk=>?_) ?_
   ·simp[facts]
   ·have hw:=bS hk (by omega);have ht:=ZY (rh S.length) f.facts hk;rw[ht];have hlen:((f.facts.take k).filter (rh S.length)).length≤k:=cC (JI _ _) (by simp;omega);generalize (f.facts.take k).filter (rh S.length)=C at*;cases hd:aH f.facts[k].at_ S.length
    ·simp[Pj,DP,rh,hk,hw,hd];refine⟨_,pz _ _,?_⟩;simp[hd,hw]
    ·simp[Pj,DP,rh,hk,hw,hd];refine⟨_,pz _ _,?_⟩;simp[hd,hw];exact⟨by omega,rfl,by simp[facts]⟩
   simp[Pj,DP];rfl
end Rm
namespace Rm
open Go Go.Proofs Cx
end Rm
namespace Rm
open Go Go.Proofs Cx
def gM (g:Nat→Cell):D:=.list ((List.range 20).map fun i=>cV (g i))
theorem S9 {g g':Nat→Cell}(h:∀i,i<20→g i=g' i):gM g=gM g':=by
 unfold gM
 congr 1
 exact xb fun i hi=>by rw[h i (by simpa using hi)]
theorem Ta (g:Nat→Cell)(k:Nat)(c:Cell):D.list ((gM g).l.set k (cV c))=gM (fun i=>if i=k then c else g i):=by
 unfold gM
 congr 1
 show((List.range 20).map fun i=>cV (g i)).set k (cV c)=_;apply R6
 ·simp
 ·intro i h1 h2;simp at h2;rw[List.getElem_set];by_cases h:k=i
  ·simp[h]
  ·have h':¬i=k:=fun e=>h e.symm;simp[h,h']
@[simp] theorem aqV (g:Nat→Cell):(gM g).l.length=20:=by
  show((List.range 20).map fun i=>cV (g i)).length=20;simp
theorem E1 (g:Nat→Cell){k:Nat}(hk:k<20):(gM g).l[k]?.getD D.none=cV (g k):=by
 show((List.range 20).map fun i=>cV (g i))[k]?.getD D.none=cV (g k);simp[hk]
theorem abG (g:Nat→Cell){k:Nat}(hk:k<(gM g).l.length):(gM g).l[k]=cV (g k):=by
 have h:=E1 g (k:=k) (by simpa using hk);rw[bo hk] at h;exact h
theorem abI (g:Nat→Cell)(k:Nat)(c:Cell):(gM g).l.set k (cV c)=(gM (fun i=>if i=k then c else g i)).l:=congrArg D.l (Ta g k c)
theorem abH (g:Nat→Cell):D.list (gM g).l=gM g:=rfl
@[simp] theorem auC (x:Cell)(b:Bool)(n:Int):uB (cV x) 0 (D.agg [D.bool b,D.int n])=cV ⟨b,n⟩:=_root_.id rfl
def yo {α:Type}(l:List (Int×α))(val:α→Cell)(g0:Nat→Cell)(i:Nat):Cell:=match l.find? (fun p=>decide (p.1=(i:Int))) with|some p=>val p.2|none=>g0 i
def qu {α:Type}(enc:α→D)(p:Int×α):D:=.tup [.int p.1,enc p.2]
theorem Wm {α:Type}{J o:Nat}{ps da:List Nat}{a:PC}{ρ:Env}{Q:Out→Prop}(l:List (Int×α))(enc:α→D)(val:α→Cell)(g0:Nat→Cell)
 (nd:∀p q,p∈l→q∈l→p.1=q.1→p=q) (PD:∀p,p∈l→0≤p.1) (he:ρ.o J=.tup [.list [],.map (l.map fun p=>(.int p.1,enc p.2))]) (h0:ρ.o o=gM g0)
 (step:∀p,p∈l→∀g done,aE T (sl [o] a) ((ρ.put ps (da.map (qu enc p).tget) [o] [gM g]).setO J (.tup [.list (done++[qu enc p]),.map (l.map fun p=>(.int p.1,enc p.2))])) (fun y=>∃ρ',y=.next ρ'∧ρ'.o o=.list ((gM g).l.set p.1.toNat (cV (val p.2)))))
 (last:Q (.next (ρ.put [] [] [o] [gM (yo l val g0)]))):aS T (.meach J ps da [o] a) ρ Q:=by
 have mN:gW (.map (l.map fun p=>((D.int p.1,enc p.2):D×D)))=l.map (qu enc):=by
  simp[gW,qu]
 refine .meachR _ he (fun done vo=>∃g:Nat→Cell,vo=[gM g]∧(∀p,p∈l→qu enc p∈done→g p.1.toNat=val p.2)∧∀i:Nat,(∀p,p∈l→qu enc p∈done→p.1≠i)→g i=g0 i) ⟨g0,by simp[h0],(fun p _ h=>by cases h),fun i _=>rfl⟩ (fun done x rest vo hp ⟨g,hv,oI,dt⟩=>?_) ⟨_,fun done hp vo ⟨g,hv,oI,dt⟩=>?_,last⟩
 ·subst hv;rw[mN] at hp;have hx:x∈l.map (qu enc):=hp.subset (by simp);obtain⟨p,fy,rfl⟩:=eE.mp hx;refine xd _ (fun y ⟨ρ',e,ho⟩=>⟨ρ',e,fun i=>if i=p.1.toNat then val p.2 else g i,by simp[ho,Ta],fun q hq ME=>?_,fun i hi=>?_⟩) (step p fy g done)
  ·have MF:=PD q hq;have oR:=PD p fy;by_cases h:q.1=p.1
   ·rw[nd q p hq fy h];simp
   ·show(if q.1.toNat=p.1.toNat then val p.2 else g q.1.toNat)=val q.2;rw[if_neg (by omega)];rcases de.mp ME with h1|h1
    ·exact oI q hq h1
    ·simp[qu] at h1;exact absurd h1.1 h
  ·have oR:=PD p fy;have cv:=hi p fy (by simp);show(if i=p.1.toNat then val p.2 else g i)=g0 i;rw[if_neg (by omega)];exact dt i fun q hq ME=>hi q hq (by simp[ME])
 ·rw[hv,mN] at*
  congr 1
  refine S9 fun i hi=>?_;unfold yo;cases hf:l.find? (fun p=>decide (p.1=(i:Int))) with
  |some p=>
   have fy:=sF hf;have He:p.1=(i:Int):=by simpa using JF hf
   have:=oI p fy (hp.symm.subset (List.mem_map_of_mem fy));simp only;rw[←this,He];rfl
  |none=>
   refine dt i fun p fy _=>?_;have:=sA.mp hf p fy;simpa using this
@[simp] theorem ath (a b:Int):eK (D.int a) (D.int b)=decide (a=b):=by
  show((a==b)&&true)=decide (a=b);rw[Bool.and_true];by_cases h:a=b<;>simp[h]
def Bv (n k:Int):Bool:=decide (cU .and .i64 n k≠0)
def y9 (s:Sign)(due:Int):Int:=if due=-1 then 0 else s.day-due
def SG (f:File)(sign:Int):Bool:=(List.range f.alters.length).any fun k=>decide ((f.alters.getD k default).at_≤sign)
def oO (c:Case):Int:=if c.holder<0 then 0 else c.holder
def ur (c:Case)(s:Sign):List (Int×Int):=[(0,c.file.bill.sum),(1,c.file.bill.parts),(2,c.file.bill.tenor.kind),(3,c.file.bill.rate),(4,s.kind),(5,c.defence),(6,y9 s c.due)]
def uu (r:Realm)(c:Case)(s:Sign):List (Int×Bool):=[(7,Bv c.file.bill.flags 1),(8,decide (c.file.bill.payee=-1)),(9,Bv c.file.bill.flags 4),(10,Bv c.file.bill.flags 2),(11,decide (ma r c.file.bill.city≠ma r c.file.bill.pay)),(12,SG c.file c.sign),(13,Bv s.flags 1),(14,decide (0<y9 s c.due))]
def Ln (r:Realm)(c:Case)(s:Sign):List Cell:=
 (ur c s).map (fun p=>⟨true,p.2⟩)++(uu r c s).map (fun p=>gI p.2)++
    [kS c.file 0 c.sign,kS c.file 1 c.sign,kS c.file 2 c.sign,kS c.file 3 (oO c),kS c.file 4 (oO c)]
@[simp] theorem aqz (x:Case):lL 19 (cD x)=dg x.file:=_root_.id rfl
@[simp] theorem aqx (x:Case):lL 15 (cD x)=fR x.file.bill:=_root_.id rfl
@[simp] theorem aqy (x:File):lL 15 (dg x)=fR x.bill:=_root_.id rfl
def sO (c:Case):Bool:=aH c.sign c.file.signs.length&&decide (-1≤c.holder)&&decide (oO c<c.file.signs.length)&&(decide (c.due=-1)||aH c.due 100001)
def j8 (r:Realm)(c:Case):List Cell:=if sO c=true∧aH (c.file.signs.getD c.sign.toNat default).day 100001=true then Ln r c (c.file.signs.getD c.sign.toNat default) else[]
theorem ali (r:Realm)(c:Case)(h2:c.file.facts.length≤100000)(h3:c.file.alters.length≤100000):aw T 104 [bF r,cD c] (cells (j8 r c)):=by
 refine .of_tree rfl (lA 11 (by kernel_rfl)) ans ?_;cases hs:aH c.sign c.file.signs.length
 ·have hv:j8 r c=[]:=by unfold j8 sO;rw[hs];simp
  rw[hv];simp[uG];refine⟨_,pz _ _,?_⟩;simp[hs];rfl
 by_cases hh:c.holder< -1
 ·have hv:j8 r c=[]:=by unfold j8 sO;rw[hs];simp;intros;omega
  rw[hv];simp[uG,hh];exact⟨⟨_,pz _ _⟩,rfl⟩
 by_cases hm:(c.file.signs.length:Int)≤oO c
 ·have hv:j8 r c=[]:=by unfold j8 sO;rw[hs];simp;intros;omega
  rw[hv];unfold oO at hm;simp[uG,hm];exact⟨⟨_,pz _ _⟩,rfl⟩
 by_cases hd:c.due≠-1∧aH c.due 100001=false
 ·have hv:j8 r c=[]:=by unfold j8 sO;rw[hs];simp[hd]
  rw[hv];unfold oO at hm;obtain⟨ba,eg⟩:=hd;simp[uG,hh,hm,ba];refine⟨_,pz _ _,?_⟩;simp[hs,hh,hm,ba];refine⟨_,pz _ _,?_⟩;simp[hs,hh,hm,ba,eg];rfl
 have hcb:sO c=true:=by
  unfold sO;rw[hs];simp;refine⟨⟨by omega,by omega⟩,?_⟩;by_cases h:c.due=-1
  ·exact .inl h
  ·right;cases hb:aH c.due 100001
   ·exact absurd ⟨h,hb⟩ hd
   ·rfl
 have hlen:c.sign.toNat<c.file.signs.length:=by simp[aH] at hs;omega
 have er:0≤c.sign∧c.sign<(c.file.signs.length:Int):=by simpa [aH] using hs
 obtain⟨s,CC⟩:∃s:Sign,s=c.file.signs[c.sign.toNat]:=⟨_,rfl⟩
 have ql:c.file.signs.getD c.sign.toNat default=s:=by rw[CC];simp[hlen]
 have hv:j8 r c=if aH s.day 100001=true then Ln r c s else[]:=by
  unfold j8;rw[ql,hcb];simp
 rw[hv];unfold oO at hm;by_cases BW:c.due=-1
 case' pos=>
  have UF:(c.due=-1)=True:=eq_true BW;simp[uG,hh,hm,UF];refine⟨_,pz _ _,?_⟩;simp[hs,hh,hm,UF,hlen,←CC,er]
 case' neg=>
  have BT:aH c.due 100001=true:=by
   cases hb:aH c.due 100001
   ·exact absurd ⟨BW,hb⟩ hd
   ·rfl
  simp[uG,hh,hm,BW];refine⟨_,pz _ _,?_⟩;simp[hs,hh,hm,BW];refine⟨_,pz _ _,?_⟩;simp[hs,hh,hm,BW,BT,hlen,←CC,er]
 all_goals
  refine⟨_,pz _ _,?_⟩;cases GI:aH s.day 100001
  ·simp[GI];rfl
  simp[GI,kL];refine Wm (ur c s) D.int (fun n=>⟨true,n⟩) (fun _=>eR) ?_ ?_ ?_ ?_ (fun p hp g done=>?_) ?_
  ·intro p q hp hq h;simp[ur] at hp hq;rcases hp with rfl|rfl|rfl|rfl|rfl|rfl|rfl<;>rcases hq with rfl|rfl|rfl|rfl|rfl|rfl|rfl<;>first|rfl|(simp at h)
  ·intro p hp;simp[ur] at hp;rcases hp with rfl|rfl|rfl|rfl|rfl|rfl|rfl<;>simp
  ·have L1:(if c.due=-1 then(0:Int) else IntKind.i64.wrap (s.day-c.due))=y9 s c.due:=by
        unfold y9;by_cases h:c.due=-1
        ·simp[h]
        ·have BT:aH c.due 100001=true:=by
          cases hb:aH c.due 100001
          ·exact absurd ⟨h,hb⟩ hd
          ·rfl
         simp[aH] at BT GI;rw[if_neg h,if_neg h];exact cm (by omega)
   simp[ur,kL,hlen,←CC];rw[←L1];by_cases h:c.due=-1<;>simp[h]
  ·simp[gM];rfl
  ·have hr:0≤p.1∧p.1<20:=by
        simp[ur] at hp;rcases hp with rfl|rfl|rfl|rfl|rfl|rfl|rfl<;>simp
   have hk:p.1.toNat<20:=by omega
   simp[ak8,Pl,qu,E1 g hk];exact hr
  have agq:∀k (hk:k<c.file.alters.length),aw T 125 (oy c.file.alters[k]::[.ref (cD c)]) (.bool (decide ((c.file.alters.getD k default).at_≤c.sign))):=fun k hk=>by
   refine .of_tree rfl (lA 12 (by kernel_rfl)) anr ?_;simp[QX,hk]
  simp;refine⟨_,aar c.file.alters _ _ _ agq (by omega),_,qA r _,_,qA r _,?_⟩;have L1:(if c.due=-1 then(0:Int) else IntKind.i64.wrap (s.day-c.due))=y9 s c.due:=by
   unfold y9;by_cases h:c.due=-1
   ·simp[h]
   ·have BT:aH c.due 100001=true:=by
     cases hb:aH c.due 100001
     ·exact absurd ⟨h,hb⟩ hd
     ·rfl
    simp[aH] at BT GI;rw[if_neg h,if_neg h];exact cm (by omega)
  have LZ:cells (Ln r c s)=gM (fun i=>if i=15 then kS c.file 0 c.sign else if i=16 then kS c.file 1 c.sign else if i=17 then kS c.file 2 c.sign else if i=18 then kS c.file 3 (oO c) else if i=19 then kS c.file 4 (oO c) else yo (uu r c s) gI (yo (ur c s) (fun n=>⟨true,n⟩) (fun _=>eR)) i):=by
   rfl
  generalize yo (ur c s) (fun n=>(⟨true,n⟩:Cell)) (fun _=>eR)=g1 at*;refine Wm (uu r c s) D.bool gI g1 ?_ ?_ ?_ ?_ (fun p hp g done=>?_) ?_
  ·intro p q hp hq h;simp[uu] at hp hq;rcases hp with rfl|rfl|rfl|rfl|rfl|rfl|rfl|rfl<;>rcases hq with rfl|rfl|rfl|rfl|rfl|rfl|rfl|rfl<;>first|rfl|(simp at h)
  ·intro p hp;simp[uu] at hp;rcases hp with rfl|rfl|rfl|rfl|rfl|rfl|rfl|rfl<;>simp
  ·simp[uu,kL,hlen,←CC,Bv];rw[←L1];by_cases h:c.due=-1<;>simp[h,SG]
  ·simp
  ·have hr:0≤p.1∧p.1<20:=by
        simp[uu] at hp;rcases hp with rfl|rfl|rfl|rfl|rfl|rfl|rfl|rfl<;>simp
   have hk:p.1.toNat<20:=by omega
   simp[ak9,Pm,qu,E1 g hk];refine⟨_,Zi _,?_⟩;simp[E1 g hk];exact hr
  simp;generalize yo (uu r c s) gI g1=g2 at*;have hho:(if c.holder<0 then D.int 0 else D.int c.holder)=D.int (oO c):=by
   unfold oO;split<;>rfl
  rw[hho];refine⟨_,D2 _ _ _ (by omega),_,D2 _ _ _ (by omega),_,D2 _ _ _ (by omega),_,D2 _ _ _ (by omega),_,D2 _ _ _ (by omega),?_⟩;rw[LZ];simp only[abG,al4,abI,abH];refine S9 fun i hi=>?_;by_cases kU:i=15
  ·subst kU;simp
  by_cases Gp:i=16
  ·subst Gp;simp
  by_cases rn:i=17
  ·subst rn;simp
  by_cases p9:i=18
  ·subst p9;simp
  by_cases Gq:i=19
  ·subst Gq;simp
  simp[kU,Gp,rn,p9,Gq]
end Rm
namespace Rm
open Go Go.Proofs Cx
def H7 (n:Nat)(x:Int):Bool:=decide (x<0)||decide ((n:Int)≤x)
def lP (r:Realm)(a q:Int)(l:List Int):Bool:=
 !(decide (a<0)||decide ((r.orders.length:Int)≤a)||decide (q<0)||decide (22≤q)||decide (l.length≠5))&& !((List.range l.length).any fun k=>H7 r.orders.length (l.getD k 0))
theorem adA (x n:Int):aw T 130 [.int x,.ref (.int n)] (.bool (decide (x<0)||decide (n≤x))):=by
 refine .of_tree rfl (lA 24 (by kernel_rfl)) amG ?_;by_cases h:x<0<;>simp[Qf,h]
theorem TK (r:Realm)(a q:Int)(l:List Int)(hl:l.length≤100000):aw T 107 [bF r,.int a,.int q,ints l] (.bool (lP r a q l)):=by
 refine .of_tree rfl (lA 23 (by kernel_rfl)) amH ?_;by_cases h1:a<0
 ·simp[uF,lP,h1]
 by_cases h2:(r.orders.length:Int)≤a
 ·simp[uF,lP,h1,h2]
 by_cases h3:q<0
 ·simp[uF,lP,h1,h2,h3]
 by_cases h4:22≤q
 ·simp[uF,lP,h1,h2,h3,h4]
 by_cases h5:(l.length:Int)=5
 ·have yy:l.length=5:=by omega
  simp[uF,h1,h2,h3,h4,yy];refine⟨_,aas l 130 [.ref (.int r.orders.length)] (fun k=>H7 r.orders.length (l.getD k 0)) (fun k hk=>by simpa [H7,hk] using adA l[k] r.orders.length) (by omega),?_⟩;simp only[lP,yy];simp[h1,h2,h3,h4]
 ·have yy:¬l.length=5:=by omega
  simp[uF,lP,h1,h2,h3,h4,yy];intro h;omega
theorem La {r:Realm}{a q:Int}{l:List Int}(h:lP r a q l=true):(0≤a∧a<r.orders.length)∧l.length=5∧(∀x,x∈l→0≤x∧x<r.orders.length)∧∀b:Int,0≤b→b<r.orders.length→lP r b q l=true:=by
 unfold lP at h ⊢;rw[aj] at h;obtain⟨h1,h2⟩:=h;simp at h1;refine⟨by omega,h1.2,fun x hx=>?_,fun b bW bk=>?_⟩
 ·obtain⟨k,hk,rfl⟩:=gy hx;simp[H7] at h2;have:=h2 k hk;simp[hk] at this;omega
 ·rw[h2];simp;omega
def Aq (r:Realm):Prop:=∀o,o∈r.orders→o.choices.length≤100000∧∀ch,ch∈o.choices→0≤ch.by_∧ch.by_<5
def v7 (q:Int)(ch:Choice):Bool:=decide (ch.ask=q)&&decide (ch.by_≠0)
def nO (r:Realm)(a:Int):Order:=r.orders.getD a.toNat default
def fX (r:Realm)(a q:Int)(l:List Int):Int×Bool:=
 (match(nO r a).choices.find? (v7 q) with|some ch=>l.getD ch.by_.toNat 0|none=>a,match(nO r a).choices.find? (v7 q) with|some ch=>ch.whole|none=>false)
theorem R1 (r:Realm)(oE:Aq r)(a q:Int)(l:List Int)(hl:l.length≤100000)(hf:lP r a q l=true):
 aw T 108 [bF r,.int a,.int q,ints l] (.tup [.int (fX r a q l).1,.bool (fX r a q l).2])∧0≤(fX r a q l).1∧(fX r a q l).1<r.orders.length:=by
 obtain⟨ha,UX,hx,_⟩:=La hf;have yE:a.toNat<r.orders.length:=by omega
 obtain⟨aP,lR⟩:=oE _ (ec yE);obtain⟨o,ho⟩:∃o,o=r.orders[a.toNat]:=⟨_,rfl⟩
 rw[←ho] at aP lR;have Mq:nO r a=o:=by rw[ho];simp[nO,yE]
 unfold fX;rw[Mq];refine⟨?_,?_⟩
 ·refine .of_tree rfl (lA 27 (by kernel_rfl)) amF ?_;simp[Qe];refine⟨_,TK r a q l hl,?_⟩;simp[hf,yE,←ho,ha];refine aS.scan o.choices.length (fun k=>v7 q (o.choices.getD k default)=false) (fun k=>[.int 0,.bool false,.int k]) (fun _=>[]) ?_ (fun k hk hj ax=>?_) (fun k hk hj ax=>?_) (fun hj=>?_)
  ·simp
  ·have hw:=bS hk (by omega);have hn:¬(o.choices[k].ask=q∧¬o.choices[k].by_=0):=by simpa [v7,hk] using ax
   simp[OY,Dv,yE,←ho,hk,hw,hn]
  ·have nz:=Bq hk (by simpa [hk] using ax) (fun j bp=>by have:=hj j bp;simpa [show j<o.choices.length by omega] using this);rw[nz];have hc:o.choices[k].ask=q∧¬o.choices[k].by_=0:=by simpa [v7,hk] using ax
   have hb:=lR _ (ec hk);have jA:o.choices[k].by_.toNat<l.length:=by omega
   simp[OY,Dv,yE,←ho,hk,hc,ints,jA];omega
  ·have nz:=K9 (l:=o.choices) (p:=v7 q) (fun j bp=>by have:=hj j bp;simpa [bp] using this);rw[nz];simp[OY,Dv,yE,←ho]
 ·cases nz:o.choices.find? (v7 q) with
  |none=>exact ha
  |some ch=>
   have hb:=lR _ (sF nz);have jA:ch.by_.toNat<l.length:=by omega
   simp[jA];exact hx _ (ec jA)
theorem Oi:∀(N:Nat) (l:List Int),l.Nodup→(∀x,x∈l→0≤x∧x<(N:Int))→l.length≤N
 |0,l,hn,h=>by
  cases l with
  |nil=>simp
  |cons a l=>have:=h a (by simp);omega
 |N+1,l,hn,h=>by
  by_cases hm:(N:Int)∈l
  ·have h1:=Oi N (l.erase (N:Int)) (hn.erase _) (fun x hx=>by
    have du:=(hn.mem_erase_iff).mp hx;have:=h x du.2;have az:=du.1;omega)
   rw[List.length_erase_of_mem hm] at h1;omega
  ·have h1:=Oi N l hn (fun x hx=>by
    have:=h x hx;have az:x≠(N:Int):=fun e=>hm (e▸hx);omega)
   omega
def dw (l:List Int):Int:=l.getD (l.length-1) 0
def kI (r:Realm)(q:Int)(l:List Int):Nat→List Int→List Int×Int
 |0,p=>(p,0)
 |n+1,p=>
  if(fX r (dw p) q l).1=dw p then(p,0)
  else if(fX r (dw p) q l).2=false∨(hasB p (fX r (dw p) q l).1=true∧(nO r (fX r (dw p) q l).1).accepts=true) then(p++[(fX r (dw p) q l).1],0)
  else if hasB p (fX r (dw p) q l).1=true then(p++[(fX r (dw p) q l).1],12)
  else kI r q l n (p++[(fX r (dw p) q l).1])
theorem Nj (r:Realm)(q:Int)(l:List Int)(n:Nat)(p:List Int):kI r q l (n+1) p=
 if(fX r (dw p) q l).1=dw p then(p,0)
 else if(fX r (dw p) q l).2=false∨(hasB p (fX r (dw p) q l).1=true∧(nO r (fX r (dw p) q l).1).accepts=true) then(p++[(fX r (dw p) q l).1],0)
 else if hasB p (fX r (dw p) q l).1=true then(p++[(fX r (dw p) q l).1],12)
 else kI r q l n (p++[(fX r (dw p) q l).1]):=rfl
def je (r:Realm)(a q:Int)(l:List Int):List Int×Int:=if lP r a q l=true∧l.getD 0 0=a then kI r q l r.orders.length [a] else([],1)
theorem aaB (r:Realm)(oE:Aq r)(hn:r.orders.length≤100000)(a q:Int)(l:List Int)(hl:l.length≤100000):aw T 84 [bF r,.int a,.int q,ints l] (.tup [ints (je r a q l).1,.int (je r a q l).2]):=by
 refine .of_tree rfl (lA 22 (by kernel_rfl)) amE ?_;simp[Qd];refine⟨_,TK r a q l hl,?_⟩;cases hf:lP r a q l
 ·simp[je,hf];rfl
 obtain⟨ha,UX,hx,yC⟩:=La hf;have h0:0<l.length:=by omega
 by_cases Cb:l[0]=a
 ·have hE:je r a q l=kI r q l r.orders.length [a]:=by unfold je;rw[if_pos ⟨hf,by simp[h0,Cb]⟩]
  rw[hE];simp[h0,Cb,ints];refine aS.forLoop (α:=Nat×List Int) (fun s vr vo=>vr=[.list [],.int 0,.none]∧vo=[ints s.2]∧s.2.Nodup∧(∀x,x∈s.2→0≤x∧x<(r.orders.length:Int))∧s.2≠[]∧s.1+s.2.length=r.orders.length+1∧kI r q l s.1 s.2=kI r q l r.orders.length [a]) (fun s=>s.1) (r.orders.length,[a]) ?_ ?_
  ·simp[ints];exact ha
  ·rintro⟨n,p⟩ vr vo ⟨rfl,rfl,be,bl,az,hlen,Cc⟩;simp only at*;have fy:p.length≤r.orders.length:=Oi _ p be bl;have Cs:0<p.length:=JJ.mpr az;obtain⟨m,rfl⟩:∃m,n=m+1:=⟨n-1,by omega⟩
   have ae:p.length-1<p.length:=by omega
   have kC:dw p=p[p.length-1]:=by simp[dw,ae]
   have vJ:=bl _ (ec ae);rw[←kC] at vJ;obtain⟨LA,fV,fW⟩:=R1 r oE (dw p) q l hl (yC _ vJ.1 vJ.2);have Mb:((p.length:Int)-1).toNat=p.length-1:=by omega
   have M7:IntKind.i64.wrap ((p.length:Int)-1)=(p.length:Int)-1:=cm (by omega);rw[←Cc,Nj];obtain⟨L,hL⟩:∃L,L=fX r (dw p) q l:=⟨_,rfl⟩
   rw[←hL] at LA fV fW ⊢;obtain⟨to,whole⟩:=L;simp only at LA fV fW;have y1:to.toNat<r.orders.length:=by omega
   have Mq:nO r to=r.orders[to.toNat]:=by simp[nO,y1]
   simp only[Mq];simp[ak6,OX,M7,Mb,ae,←kC,ints];refine⟨by omega,_,LA,?_⟩;by_cases h1:to=dw p
   ·simp[h1]
   simp[h1];refine⟨_,Ew p to (by omega),by omega,?_⟩;cases whole
   ·simp
   cases h2:hasB p to
   ·have cY:to∉p:=fun hm=>by
     have:hasB p to=true:=by simp[hasB,hm]
     rw[h2] at this;cases this
    simp[h2];refine⟨m,by omega,p++[to],by simp,?_,?_,by simp,by simp;omega,rfl⟩
    ·exact Aw.mpr ⟨be,by simp,fun x hx y hy=>by simp at hy;subst hy;exact fun e=>cY (e▸hx)⟩
    ·intro x hx;rcases de.mp hx with h|h
     ·exact bl x h
     ·simp at h;subst h;exact⟨fV,fW⟩
   ·cases h3:r.orders[to.toNat].accepts<;>simp[h2,h3,y1]<;>omega
 ·have hE:je r a q l=([],1):=by unfold je;rw[if_neg (by simp[h0,Cb])]
  rw[hE];simp[h0,Cb];rfl
end Rm
namespace Rm
open Go Go.Proofs Cx
def eV (f:File)(i:Int):Sign:=f.signs.getD i.toNat default
def mc (r:Realm)(aX:Int)(c:Case):List Int:=[aX,ma r (eV c.file c.sign).city,ma r c.file.bill.pay,ma r c.file.bill.city,ma r (r.firms.getD (eV c.file c.sign).who.toNat default).city]
def pR (r:Realm)(aX:Int)(c:Case):Prop:=(eV c.file c.sign).who<0∨(r.firms.length:Int)≤(eV c.file c.sign).who∨aX<0∨(r.orders.length:Int)≤aX
instance (r:Realm) (aX:Int) (c:Case):Decidable (pR r aX c):=by unfold pR;infer_instance
def j3 (r:Realm)(aX:Int)(c:Case):List Int:=if pR r aX c then[] else if hasB (mc r aX c) (-1)=true then[] else mc r aX c
@[simp] theorem aqO (r:Realm)(x:Int):xj (bF r) x=ma r x:=by
  unfold xj ma aH;by_cases h:0≤x∧x<(r.cities.length:Int)
  ·have hx:x.toNat<r.cities.length:=by omega
   rw[if_pos (by simpa using h),if_pos (by simpa using h)];simp[hx]
  ·rw[if_neg (by simpa using h),if_neg (by simpa using h)]
theorem Yc (r:Realm)(aX:Int)(c:Case)(h1:c.sign.toNat<c.file.signs.length):Oj [bF r,.int aX,cD c]=ints (j3 r aX c):=by
 have hs:eV c.file c.sign=c.file.signs[c.sign.toNat]:=by simp[eV,h1]
 unfold Oj j3;simp[h1];by_cases hb:pR r aX c
 ·rw[if_pos (by simpa [pR,hs] using hb),if_pos hb];rfl
 ·rw[if_neg (by simpa [pR,hs] using hb),if_neg hb];have Hm:(eV c.file c.sign).who.toNat<r.firms.length:=by unfold pR at hb;omega
  have VC:c.file.signs[c.sign.toNat].who.toNat<r.firms.length:=by rw[←hs];exact Hm
  have jW:mc r aX c=[aX,ma r c.file.signs[c.sign.toNat].city,ma r c.file.bill.pay,ma r c.file.bill.city,ma r r.firms[c.file.signs[c.sign.toNat].who.toNat].city]:=by
   simp[mc,hs,VC]
  have cK:∀l:List Int,hasB l (-1)=true↔-1∈l:=fun l=>by simp[hasB]
  rw[jW];simp[VC];split
  ·rename_i h;rw[if_pos ((cK _).mpr (by simpa using h))];rfl
  ·rename_i h;rw[if_neg (fun h'=>h (by simpa using(cK _).mp h'))]
theorem aky (r:Realm)(aX:Int)(c:Case)(h1:0≤c.sign∧c.sign<c.file.signs.length):aw T 83 [bF r,.int aX,cD c] (ints (j3 r aX c)):=by
 have dq:c.sign.toNat<c.file.signs.length:=by omega
 rw[←Yc r aX c dq];have hs:eV c.file c.sign=c.file.signs[c.sign.toNat]:=by simp[eV,dq]
 refine aw.of_nsl rfl ams amt ?_;rw[Yc r aX c dq];by_cases hb:pR r aX c
 ·refine .inr ⟨by simp[j3,hb];rfl,?_⟩;have gg:=hb;simp[pR,hs] at gg;simp[Jk,h1,dq]
  intros;omega
 have qa:j3 r aX c=if hasB (mc r aX c) (-1)=true then[] else mc r aX c:=by unfold j3;rw[if_neg hb]
 have gg:=hb;simp[pR,hs] at gg;have hw:c.file.signs[c.sign.toNat].who.toNat<r.firms.length:=by omega
 have hC:=Ew (mc r aX c) (-1) (by simp[mc]);cases hh:hasB (mc r aX c) (-1)<;>rw[hh] at hC<;>simp[mc,ints,hs,hw] at hC
 ·refine .inl ⟨(mc r aX c).map .int,by simp[mc],by rw[qa,hh];rfl,?_⟩;simp[P3,h1,dq,hw];rw[if_neg (by omega)];refine⟨_,qA r _,_,qA r _,_,qA r _,by omega,_,qA r _,_,by simpa using hC,?_⟩;simp[mc,hs,hw]
 ·refine .inr ⟨by rw[qa,hh];rfl,?_⟩;simp[Jk,h1,dq,hw]
  intros
  refine⟨_,qA r _,_,qA r _,_,qA r _,by omega,_,qA r _,_,by simpa using hC,?_⟩;simp
end Rm
namespace Rm
open Go Go.Proofs Cx
structure Right (r:Realm):Prop where
 by_:Aq r
 len:r.orders.length≤100000
 ok:∀o,o∈r.orders→o.OK∧o.rules.length≤100000
structure FewS (f:File):Prop where
 signs:f.signs.length≤1000
 alters:f.alters.length≤1000
 acts:f.acts.length≤1000
 facts:f.facts.length≤1000
theorem aaa {α:Type}(p:α→Bool)(l:List α):(l.takeWhile p).length≤l.length:=by
 obtain⟨m,h1,h2,_⟩:=Jq p l;rw[h2,db];omega
theorem FewS.at_ {f:File}(h:FewS f)(day:Int):FewS (vc f day):=
 ⟨cC (aaa _ _) h.1,cC (JI _ _) h.2,cC (aaa _ _) h.3,cC (JI _ _) h.4⟩
def iy (c:Case):Case:={c with file:=vc c.file c.day}
@[simp] theorem aqG (x:File)(a0 a1 a2 a3 a4 a5 a6 a7 a8 a9 u3 u4 u5 u6 u7 Ay Az AA AB:D)(s h d u y:Int):lL 24 (D.agg (eM [a0,a1,a2,a3,a4,a5,a6,a7,a8,a9,u3,u4,u5,u6,u7,Ay,Az,AA,AB,.int s,.int h,.int d,.int u,.int y] 0 [.int x.bill.drawer,.int x.bill.drawee,.int x.bill.payee,.int x.bill.sum,.int x.bill.currency,.int x.bill.tenor.kind,.int x.bill.tenor.n,.int x.bill.tenor.unit,.int x.bill.day,.int x.bill.city,.int x.bill.pay,.int x.bill.need,.int x.bill.rate,.int x.bill.flags,.int x.bill.parts,signs x.signs,alters x.alters,acts x.acts,facts x.facts]))=cD ⟨x,s,h,d,u,y⟩:=_root_.id rfl
theorem aa6 (r:Realm)(c:Case)(hf:FewS c.file):aw T 81 [bF r,cD c] (.tup [cD (iy c),cells (j8 r (iy c))]):=by
 refine .of_tree rfl (lA 8 (by kernel_rfl)) amr ?_;simp[P2];have h1:=hf.1;have h2:=hf.2;have h3:=hf.3;have h4:=hf.4;refine⟨_,alh c.file c.day (by omega) (by omega) (by omega) (by omega),?_⟩;have GM:=hf.at_ c.day;have h5:=GM.4;have h6:=GM.2;simp;exact⟨ali r (iy c) (by show(vc c.file c.day).facts.length≤_;omega) (by show(vc c.file c.day).alters.length≤_;omega),(congrArg (lL 24) (akf (iy c) _ _ _ _ _ _ _ _ _ _ _ _ _ _ _ _ _ _ _ _ _ _ _ _)).trans (aaZ (iy c))⟩
theorem aoh {r:Realm}{c:Case}(h:j8 r c≠[]):0≤c.sign∧c.sign<c.file.signs.length:=by
 unfold j8 at h;split at h
 ·rename_i hh;have h1:=hh.1;unfold sO at h1;simp[aH] at h1;omega
 ·exact absurd rfl h
theorem VZ (r:Realm)(oE:Aq r)(q:Int)(l:List Int)(hl:l.length≤100000)(yC:∀b:Int,0≤b→b<r.orders.length→lP r b q l=true):∀(n:Nat) (p:List Int),p≠[]→(∀x,x∈p→0≤x∧x<(r.orders.length:Int))→
 (kI r q l n p).1≠[]∧∀x,x∈(kI r q l n p).1→0≤x∧x<(r.orders.length:Int)
 |0,p,az,hp=>⟨az,hp⟩
 |n+1,p,az,hp=>by
  have ae:p.length-1<p.length:=by have:=JJ.mpr az;omega
  have kC:dw p=p[p.length-1]:=by simp[dw,ae]
  have vJ:=hp _ (ec ae);rw[←kC] at vJ;obtain⟨_,ht⟩:=R1 r oE (dw p) q l hl (yC _ vJ.1 vJ.2)
  have aQ:∀x,x∈p++[(fX r (dw p) q l).1]→0≤x∧x<(r.orders.length:Int):=fun x hx=>by
   rcases de.mp hx with h|h
   ·exact hp x h
   ·simp at h;subst h;exact ht
  rw[Nj];split
  ·exact⟨az,hp⟩
  split
  ·exact⟨by simp,aQ⟩
  split
  ·exact⟨by simp,aQ⟩
  ·exact VZ r oE q l hl yC n _ (by simp) aQ
theorem VY {r:Realm}(hr:Right r){a q:Int}{l:List Int}(hl:l.length≤100000)(h:(je r a q l).2=0):(je r a q l).1≠[]∧0≤dw (je r a q l).1∧dw (je r a q l).1<r.orders.length:=by
 unfold je at h ⊢;split at h
 ·rename_i hh;rw[if_pos hh];obtain⟨ha,UX,hx,yC⟩:=La hh.1;obtain⟨h1,h2⟩:=VZ r hr.by_ q l hl yC r.orders.length [a] (by simp) (fun x hx=>by simp at hx;subst hx;exact ha);refine⟨h1,?_⟩;have ae:(kI r q l r.orders.length [a]).1.length-1<(kI r q l r.orders.length [a]).1.length:=by have:=JJ.mpr h1;omega
  have kC:dw (kI r q l r.orders.length [a]).1=(kI r q l r.orders.length [a]).1[(kI r q l r.orders.length [a]).1.length-1]:=by simp[dw,ae]
  rw[kC];exact h2 _ (ec ae)
 ·cases h
theorem V0 (r:Realm)(q:Int)(l:List Int):∀(n:Nat) (p:List Int),(kI r q l n p).1.length≤p.length+n
 |0,p=>by simp[kI]
 |n+1,p=>by
  rw[Nj];split
  ·simp
  split
  ·simp
  split
  ·simp
  ·have:=V0 r q l n (p++[(fX r (dw p) q l).1]);simp at this;omega
theorem ah2 (r:Realm)(a q:Int)(l:List Int):(je r a q l).1.length≤1+r.orders.length:=by
 unfold je;split
 ·exact V0 r q l _ [a]
 ·simp
@[simp] theorem auz (a b c d e x:D):eM [a,b,c,d,e] 2 [x]=[a,b,x,d,e]:=_root_.id rfl
@[simp] theorem auA (a b c d e x:D):eM [a,b,c,d,e] 3 [x]=[a,b,c,x,e]:=_root_.id rfl
@[simp] theorem auB (a b c d e x:D):eM [a,b,c,d,e] 4 [x]=[a,b,c,d,x]:=_root_.id rfl
def NC:Said:=⟨eR,-1,[],1⟩
def jR (r:Realm)(aX q:Int)(c:Case):Said×List Cell:=
 if j8 r (iy c)=[] then(NC,[]) else if(pE q).2=false then(NC,[]) else if j3 r aX (iy c)=[] then(NC,[]) else
    (⟨eR,if(je r aX q (j3 r aX (iy c))).2=0 then dw (je r aX q (j3 r aX (iy c))).1 else-1,(je r aX q (j3 r aX (iy c))).1,(je r aX q (j3 r aX (iy c))).2⟩,j8 r (iy c))
theorem Yd (r:Realm)(aX:Int)(c:Case):(j3 r aX c).length≤5:=by
 unfold j3;split
 ·simp
 split<;>simp[mc]
theorem aa5 (r:Realm)(hr:Right r)(aX q:Int)(c:Case)(hf:FewS c.file):aw T 63 [bF r,.int aX,.int q,cD c] (.tup [KZ (jR r aX q c).1,cells (jR r aX q c).2]):=by
 refine .of_tree rfl (lA 7 (by kernel_rfl)) amq ?_;simp[P1];refine⟨_,aa6 r c hf,?_⟩;by_cases hv:j8 r (iy c)=[]
 ·simp[hv,jR];exact⟨rfl,rfl⟩
 simp[hv,jR];refine⟨_,Oc q,?_⟩;cases hq:(pE q).2
 ·simp[hq];exact⟨rfl,rfl⟩
 simp[hq];refine⟨_,aky r aX (iy c) (aoh hv),?_⟩;by_cases hp:j3 r aX (iy c)=[]
 ·simp[hp];exact⟨rfl,rfl⟩
 have fy:=Yd r aX (iy c);have az:ints (j3 r aX (iy c))≠.list []:=fun e=>hp (by simpa [ints] using e);simp[hp];generalize j3 r aX (iy c)=l at*;refine⟨_,aaB r hr.by_ hr.len aX q l (by omega),?_⟩;have hlen:=ah2 r aX q l;have Cc:=VY hr (a:=aX) (q:=q) (l:=l) (by omega);have Mu:=hr.len;generalize je r aX q l=L at*;obtain⟨path,err⟩:=L;simp only at*;by_cases he:err=0
 ·obtain⟨h1,h2⟩:=Cc he;have Cs:=JJ.mpr h1;have M7:IntKind.i64.wrap ((path.length:Int)-1)=(path.length:Int)-1:=cm (by omega);have Mb:((path.length:Int)-1).toNat=path.length-1:=by omega
  have ae:path.length-1<path.length:=by omega
  have kC:dw path=path[path.length-1]:=by simp[dw,ae]
  simp[he,M7,Mb,ae,←kC];exact⟨by omega,rfl⟩
 ·simp[he];rfl
def xh (r:Realm)(aX q:Int)(c:Case):Said:=
 if(jR r aX q c).1.order=-1 then(jR r aX q c).1
 else⟨(xf (nO r (jR r aX q c).1.order) q (jR r aX q c).2).1,(jR r aX q c).1.order,(jR r aX q c).1.path,(xf (nO r (jR r aX q c).1.order) q (jR r aX q c).2).2⟩
theorem aa4 {r:Realm}(hr:Right r)(aX q:Int)(c:Case):(jR r aX q c).1.order=-1∨(0≤(jR r aX q c).1.order∧(jR r aX q c).1.order<r.orders.length):=by
 unfold jR;split
 ·exact .inl rfl
 split
 ·exact .inl rfl
 split
 ·exact .inl rfl
 ·have fy:=Yd r aX (iy c);have Cc:=VY hr (a:=aX) (q:=q) (l:=j3 r aX (iy c)) (by omega);show(if _ then _ else _)=_∨_;split
  ·rename_i h;exact .inr (Cc h).2
  ·exact .inl rfl
theorem SI (r:Realm)(hr:Right r)(aX q:Int)(c:Case)(hf:FewS c.file):aw T 30 [bF r,.int aX,.int q,cD c] (KZ (xh r aX q c)):=by
 refine .of_tree rfl (lA 6 (by kernel_rfl)) amp ?_;simp[P0];refine⟨_,aa5 r hr aX q c hf,?_⟩;have ho:=aa4 hr aX q c;unfold xh;generalize jR r aX q c=S at*;obtain⟨s,cs⟩:=S;simp only at*;by_cases h:s.order=-1
 ·obtain⟨⟨kn,n⟩,o,pth,e⟩:=s;simp only at h;subst h;simp;rfl
 ·have h1:0≤s.order∧s.order<r.orders.length:=by omega
  have h2:s.order.toNat<r.orders.length:=by omega
  have h3:nO r s.order=r.orders[s.order.toNat]:=by simp[nO,h2]
  obtain⟨ax,hlen⟩:=hr.ok _ (ec h2);simp[h,h1,h2,h3];refine⟨_,akb _ q cs ax (by omega),?_⟩;simp;rfl
end Rm
namespace Rm
open Go Go.Proofs Cx
end Rm
namespace Rm
open Go Go.Proofs Cx
theorem aaJ (r:Realm)(fr to:Int)(hl:r.usances.length≤100000):∃n e:Int,aw T 75 [bF r,.int fr,.int to] (.tup [.int n,.int e])∧(e=0→∃u,u∈r.usances∧n=u.days)∧(e=0↔∃u,u∈r.usances∧u.fr=fr∧u.to=to):=by
 let p:Usance→Bool:=fun u=>decide (u.fr=fr)&&decide (u.to=to)
 refine⟨match r.usances.find? p with|some u=>u.days|none=>0,match r.usances.find? p with|some u=>0|none=>4,?_,?_⟩
 ·refine .of_tree rfl (lA 80 (by kernel_rfl)) ane ?_;simp[QK];refine aS.scan r.usances.length (fun k=>p (r.usances.getD k default)=false) (fun k=>[.int 0,.int 0,.int k]) (fun _=>[]) ?_ (fun k hk hj ax=>?_) (fun k hk hj ax=>?_) (fun hj=>?_)
  ·simp
  ·have hw:=bS hk (by omega);have hn:¬(r.usances[k].fr=fr∧r.usances[k].to=to):=by simpa [p,hk] using ax
   simp[O6,DE,hk,hw,hn]
  ·have nz:=Bq hk (by simpa [hk] using ax) (fun j bp=>by have:=hj j bp;simpa [show j<r.usances.length by omega] using this);have hc:r.usances[k].fr=fr∧r.usances[k].to=to:=by simpa [p,hk] using ax
   rw[nz];simp[O6,DE,hk,hc]
  ·have nz:=K9 (l:=r.usances) (p:=p) (fun j bp=>by have:=hj j bp;simpa [bp] using this);rw[nz];simp[O6,DE]
 ·cases h:r.usances.find? p with
  |none=>
   refine⟨fun h=>(by cases h),fun h=>(by cases h),fun⟨u,hu,h1,h2⟩=>?_⟩;have:=sA.1 h u hu;simp[p,h1,h2] at this
  |some u=>
   have h2:u.fr=fr∧u.to=to:=by simpa [p] using JF h
   exact⟨fun _=>⟨u,sF h,rfl⟩,fun _=>⟨u,sF h,h2⟩,fun _=>rfl⟩
end Rm
namespace Rm
open Go Go.Proofs Cx
end Rm
namespace Rm
open Go Go.Proofs Cx
end Rm
namespace Rm
open Go Go.Proofs Cx
end Rm
namespace Rm
open Go Go.Proofs Cx
end Rm
namespace Rm
open Go Go.Proofs Cx
def RZ (r:Realm):Prop:=r.halts.length≤100000∧∀h,h∈r.halts→0≤h.fr∧h.to≤100000
end Rm
namespace Rm
open Go Go.Proofs Cx
structure RightD (r:Realm):Prop where
 small:Small r
 halts:RZ r
theorem aw.ex_of_tree {tab:Nat→Option PC}{ext:Nat→Option (aR→List D→Option D)}{f:Nat}{pc:PC}{t:PT}{ds:List D}{P:D→Prop}(hx:ext f=none)(ht:tab f=some pc)(he:tree pc=t)
 (h:aE (fm tab ext) t (kR ds) (fun x=>∃d,x=.ret d∧P d)):∃d,aw (fm tab ext) f ds d∧P d:=by
 subst he;obtain⟨x,⟨d,rfl,hd⟩,n0,hn⟩:=Z9 (If ⟨fun _ _ _ h=>(by obtain⟨_,h,_⟩:=h;cases h),fun _ _ _ _ _ _ h=>(by obtain⟨_,h,_⟩:=h;cases h),fun _ h=>h⟩ h);exact⟨d,.of_pc hx ht ⟨.ret d,rfl,n0,hn⟩,hd⟩
end Rm
namespace Rm
open Go Go.Proofs Cx
end Rm
namespace Rm
open Go Go.Proofs Cx
end Rm
namespace Rm
open Go Go.Proofs Cx
end Rm
namespace Rm
open Go Go.Proofs Cx
theorem adE {n:Nat}{f:Nat→Int}(h:fp n f=0)(k:Nat)(hk:k<n):f k=0:=Lc.1 h k hk
theorem abP {r:Realm}(h:nk r=0)(k:Nat)(hk:k<r.orders.length):tU r.orders[k]=true:=by
 unfold nk at h;rw[PL] at h;have h1:=h (ns (rQ r) 20 (wA r)) (by simp);unfold ns at h1;split at h1
 ·cases h1
 have h2:=adE h1 k (by simpa [rQ] using hk);have h3:=(adG h2).2;unfold wA at h3;simpa [hk] using h3
theorem aeC {r:Realm}(hs:Small r)(h:nk r=0):Aq r:=by
 intro o ho;obtain⟨k,hk,rfl⟩:=gy ho;have h1:=abP h k hk;obtain⟨hc,_⟩:=hs.order _ ho;refine⟨by omega,fun ch lR=>?_⟩;unfold tU at h1;simp only[aj] at h1;obtain⟨j,hj,rfl⟩:=gy lR;have h2:=EP.1 h1.1 j hj;simpa [aH,hj] using h2
theorem aeD {r:Realm}(hs:Small r)(h:nk r=0):RZ r:=by
 refine⟨by have:=hs.halts;omega,fun x hx=>?_⟩;obtain⟨k,hk,rfl⟩:=gy hx;unfold nk at h;rw[PL] at h;have h1:=h (uo r) (by simp);unfold uo at h1;split at h1
 ·cases h1
 split at h1
 ·cases h1
 split at h1
 ·cases h1
 split at h1
 ·rename_i aD;have h2:=EP.1 aD k hk;simp[BN,wi,aH,hk] at h2;omega
 ·cases h1
structure Good (r:Realm) (f:File):Prop where
 right:Right r
 auh:RightD r
 few:FewS f
theorem aeE {r:Realm}{f:File}(hr:r.OK)(h:Gk r f=true):Good r f:=by
 unfold Gk ri at h;simp only[aj,decide_eq_true_eq] at h;obtain⟨⟨⟨h1,h2⟩,h3⟩,h4⟩:=h;have hs:=K6 hr h1;refine⟨⟨aeC hs h4,by have:=hs.orders;omega,fun o ho=>?_⟩,⟨hs,aeD hs h4⟩,?_⟩
 ·have:=hs.order o ho;refine⟨?_,by omega⟩;exact hr.2.2.2.2.1.2 o ho
 ·simp[Bo] at h2;exact⟨by omega,by omega,by omega,by omega⟩
end Rm
namespace Rm
open Go Go.Proofs Cx
end Rm
namespace Rm
open Go Go.Proofs Cx
end Rm
namespace Rm
open Go Go.Proofs Cx
end Rm
namespace Rm
open Go Go.Proofs Cx
end Rm
namespace Rm
open Go Go.Proofs Cx
def oW (x y:Fact):Bool:=decide (y.at_<x.at_)||(decide (y.at_=x.at_)&&decide (y.kind<x.kind))
def jU (x y:Fact):Bool:=decide (x.at_<y.at_)||(decide (y.at_=x.at_)&&decide (x.kind<y.kind))
def pG (l:List Fact)(x:Fact):List Fact:=l.filter (oW x)++[x]++l.filter (jU x)
@[simp] theorem atL:D.none.cells=[D.none]:=_root_.id rfl
end Rm
namespace Rm
open Go Go.Proofs Cx
theorem aon (l:List Fact)(x:Fact):(pG l x).length≤l.length+1:=by
 have h:(l.filter (oW x)).length+(l.filter (jU x)).length≤l.length:=by
  induction l with
  |nil=>simp
  |cons y l ih=>
   have hd:¬(oW x y=true∧jU x y=true):=by simp[oW,jU];omega
   cases h1:oW x y<;>cases h2:jU x y<;>simp[h1,h2] at hd ⊢<;>omega
 unfold pG;simp;omega
end Rm
namespace Rm
open Go Cx
end Rm
namespace Rm
open Go Go.Proofs Cx
end Rm
namespace Rm
open Go Go.Proofs Cx
@[simp] theorem atK:D.none.b=false:=_root_.id rfl
theorem eT (n a b:Int):aw T 44 [.int n,.int a,.int b] (.bool (wi n a b)):=by
 refine .of_tree rfl (lA 82 (by kernel_rfl)) amX ?_;simp[Qv];by_cases h:a≤n<;>simp[wi,h]
theorem m6 (n m:Int):aw T 73 [.int n,.int m] (.bool (aH n m)):=by
 refine .of_tree rfl (lA 78 (by kernel_rfl)) anV ?_;simp[Rq];by_cases h:0≤n<;>simp[aH,h]
def Jg (b:Bill):Bool:=
 if b.tenor.kind=0∨b.tenor.kind=4 then decide (b.tenor.n=0)&&decide (b.tenor.unit=0)
 else if b.tenor.kind=1∨b.tenor.kind=2 then(decide (1≤b.tenor.n)&&decide (b.tenor.n≤400))&&(decide (b.tenor.unit=0)||decide (b.tenor.unit=1))
 else if b.tenor.kind=3 then(decide (b.day≤b.tenor.n)&&decide (b.tenor.n≤100000))&&decide (b.tenor.unit=0)
 else false
theorem aoq (b:Bill):aw T 74 [fR b] (.bool (Jg b)):=by
 refine .of_tree rfl (lA 79 (by kernel_rfl)) anW ?_;unfold Jg;simp[Rr];by_cases h0:b.tenor.kind=0
 ·by_cases h1:b.tenor.n=0<;>simp[h0,h1]
 by_cases h4:b.tenor.kind=4
 ·by_cases h1:b.tenor.n=0<;>simp[h4,h1]
 simp[h0,h4];by_cases k1:b.tenor.kind=1
 ·by_cases h1:1≤b.tenor.n<;>by_cases h2:b.tenor.n≤400<;>by_cases h3:b.tenor.unit=0<;>simp[k1,h1,h2,h3]
 by_cases k2:b.tenor.kind=2
 ·by_cases h1:1≤b.tenor.n<;>by_cases h2:b.tenor.n≤400<;>by_cases h3:b.tenor.unit=0<;>simp[k2,h1,h2,h3]
 simp[k1,k2];by_cases k3:b.tenor.kind=3
 ·by_cases h1:b.day≤b.tenor.n<;>by_cases h2:b.tenor.n≤100000<;>simp[k3,h1,h2]
 simp[k3]
def rR (n m:Int):Bool:=decide (n=-1)||aH n m
def wV (r:Realm)(b:Bill):Bool:=((aH b.drawer r.firms.length&&aH b.drawee r.firms.length)&&rR b.payee r.firms.length)&&rR b.need r.firms.length
def uK (r:Realm)(b:Bill):Bool:=(aH b.currency r.currencies.length&&aH b.city r.cities.length)&&aH b.pay r.cities.length
def Dq (b:Bill):Prop:=((((1≤b.sum∧b.sum≤1099511627776)∧0≤b.day)∧b.day≤100000)∧0≤b.rate)∧b.rate≤1000
def Ll (b:Bill):Prop:=((0≤b.flags∧b.flags≤7)∧(cU .and .i64 b.flags 4=0∨¬b.payee=-1))∧Jg b=true
structure BillOK (r:Realm) (b:Bill):Prop where
 realm:nk r=0
 who:wV r b=true
 where_:uK r b=true
 range:Dq b
 parts:1≤b.parts∧b.parts≤4
 form:Ll b
 usance:b.tenor.kind=4→∃u,u∈r.usances∧u.fr=b.city∧u.to=b.pay
def oe (P:Prop)(d:D):Prop:=∃e:Int,d=.int e∧(e=0↔P)
theorem oe.no {P:Prop}{e:Int}(h:¬P)(he:e≠0):oe P (.int e):=⟨e,rfl,fun x=>absurd x he,fun x=>absurd x h⟩
theorem oe.ok {P:Prop}(h:P):oe P (.int 0):=⟨0,rfl,fun _=>h,fun _=>rfl⟩
theorem aop (r:Realm)(hs:Small r)(b:Bill):∃d,aw T 42 [bF r,fR b] d∧oe (BillOK r b) d:=by
 refine aw.ex_of_tree rfl aba anU ?_;simp[Rp];refine⟨_,Zg r hs,?_⟩;by_cases h0:nk r=0
 case neg=>
  simp[h0];exact .no (fun h=>h0 h.realm) h0
 simp[h0];refine⟨_,m6 _ _,?_⟩;cases h1:aH b.drawer r.firms.length
 ·simp;exact .no (fun h=>by simpa [wV,h1] using h.who) (by decide)
 simp;refine⟨_,m6 _ _,?_⟩;cases h2:aH b.drawee r.firms.length
 ·simp;exact .no (fun h=>by simpa [wV,h2] using h.who) (by decide)
 by_cases h3:rR b.payee r.firms.length=true
 case neg=>
  have kV:¬b.payee=-1∧aH b.payee r.firms.length=false:=by simpa [rR] using h3
  simp[kV.1];refine⟨_,m6 _ _,?_⟩;simp[kV.2];exact .no (fun h=>h3 (by have:=h.who;simp[wV] at this;exact this.1.2)) (by decide)
 by_cases h4:rR b.need r.firms.length=true
 case neg=>
  have rp:¬b.need=-1∧aH b.need r.firms.length=false:=by simpa [rR] using h4
  have eI:oe (BillOK r b) (.int 1):=.no (fun h=>h4 (by have:=h.who;simp[wV] at this;exact this.2)) (by decide);by_cases hp:b.payee=-1
  ·simp[hp,rp.1];refine⟨_,m6 _ _,?_⟩;simp[rp.2];exact eI
  ·have kV:aH b.payee r.firms.length=true:=by simpa [rR,hp] using h3
   simp[hp];refine⟨_,m6 _ _,?_⟩;simp[kV,rp.1];refine⟨_,m6 _ _,?_⟩;simp[rp.2];exact eI
 have Hm:wV r b=true:=by simp[wV,h1,h2,h3,h4]
 have hp:b.payee=-1∨(¬b.payee=-1∧aH b.payee r.firms.length=true):=by
  by_cases e:b.payee=-1
  ·exact .inl e
  ·exact .inr ⟨e,by simpa [rR,e] using h3⟩
 have hn:b.need=-1∨(¬b.need=-1∧aH b.need r.firms.length=true):=by
  by_cases e:b.need=-1
  ·exact .inl e
  ·exact .inr ⟨e,by simpa [rR,e] using h4⟩
 have bad:¬uK r b=true→oe (BillOK r b) (.int 1):=fun h=>.no (fun k=>h k.where_) (by decide);have fin:∀u:Int,(u=0↔∃u,u∈r.usances∧u.fr=b.city∧u.to=b.pay)→Dq b→(1≤b.parts∧b.parts≤4)→Ll b→uK r b=true→oe (BillOK r b) (if b.tenor.kind=4 then .int u else .int 0):=by
  intro u hu h6 h7 h8 h9;by_cases e:b.tenor.kind=4
  ·rw[if_pos e];exact⟨u,rfl,fun h=>⟨h0,Hm,h9,h6,h7,h8,fun _=>hu.1 h⟩,fun h=>hu.2 (h.usance e)⟩
  ·rw[if_neg e];exact .ok ⟨h0,Hm,h9,h6,h7,h8,fun h=>absurd h e⟩
 obtain⟨un,ue,CG,_,CH⟩:=aaJ r b.city b.pay (by have:=hs.us;omega);rcases hp with hp|⟨hp,fw⟩<;>rcases hn with hn|⟨hn,oN⟩
 case' inl.inl=>simp[hp,hn]
 case' inl.inr=>simp[hp,hn];refine⟨_,m6 _ _,?_⟩;simp[oN]
 case' inr.inl=>simp[hp,hn];refine⟨_,m6 _ _,?_⟩;simp[fw]
 case' inr.inr=>simp[hp,hn];refine⟨_,m6 _ _,?_⟩;simp[fw];refine⟨_,m6 _ _,?_⟩;simp[oN]
 all_goals
  refine⟨_,m6 _ _,?_⟩;cases h5:aH b.currency r.currencies.length
  ·simp;exact bad (by simp[uK,h5])
  simp;refine⟨_,m6 _ _,?_⟩;cases h6:aH b.city r.cities.length
  ·simp;exact bad (by simp[uK,h6])
  simp;refine⟨_,m6 _ _,?_⟩;cases h7:aH b.pay r.cities.length
  ·simp;exact bad (by simp[uK,h7])
  have CM:uK r b=true:=by simp[uK,h5,h6,h7]
  simp;by_cases h8:Dq b
  case neg=>
   have Lu:((((b.sum<1∨1099511627776<b.sum)∨b.day<0)∨100000<b.day)∨b.rate<0)∨1000<b.rate:=by unfold Dq at h8;omega
   rw[if_pos Lu];exact .no (fun k=>h8 k.range) (by decide)
  have Lu:¬(((((b.sum<1∨1099511627776<b.sum)∨b.day<0)∨100000<b.day)∨b.rate<0)∨1000<b.rate):=by unfold Dq at h8;omega
  rw[if_neg Lu];by_cases h9:1≤b.parts∧b.parts≤4
  case neg=>
   rw[if_pos (by omega)];exact .no (fun k=>h9 k.parts) (by decide)
  rw[if_neg (by omega)];have J5:¬Ll b→oe (BillOK r b) (.int 2):=fun h=>.no (fun k=>h k.form) (by decide);by_cases g1:0≤b.flags∧b.flags≤7
  case neg=>
   have jy:b.flags<0∨7<b.flags:=by omega
   simp[g1,jy];exact J5 (fun h=>g1 h.1.1)
  have jy:¬(b.flags<0∨7<b.flags):=by omega
  by_cases g2:cU .and .i64 b.flags 4=0∨¬b.payee=-1
  case neg=>
   have sZ:¬cU .and .i64 b.flags 4=0∧b.payee=-1:=by simpa using g2
   first
        |exact absurd sZ.2 hp
        |(simp[g1,jy,sZ]
          exact J5 (fun h=>g2 h.1.2))
  have g3:(b.payee=-1→cU .and .i64 b.flags 4=0):=fun e=>g2.resolve_right (fun h=>h e);simp[g1,jy,hp,g3];refine⟨_,aoq b,?_⟩;cases kq:Jg b
  ·simp;exact J5 (fun h=>by have:=h.2;rw[kq] at this;cases this)
  have hf:=fin ue CH h8 h9 ⟨⟨g1,g2⟩,kq⟩ CM;simp;by_cases e:b.tenor.kind=4
  ·simp[e] at hf ⊢;exact⟨_,CG,hf⟩
  ·simp[e] at hf ⊢;exact hf
end Rm
namespace Rm
open Go Go.Proofs Cx
def Ad (f:File)(i part:Int):Bool:=decide (i=0)||decide ((eV f i).part=part)
theorem X6 (f:File)(i part:Int)(h:i=0∨(0≤i∧i<f.signs.length)):aw T 99 [dg f,.int i,.int part] (.bool (Ad f i part)):=by
 refine .of_tree rfl (lA 85 (by kernel_rfl)) amZ ?_;unfold Ad;by_cases h0:i=0
 ·simp[Jn,h0]
 ·obtain⟨h1,h2⟩:=h.resolve_left h0;have h3:i.toNat<f.signs.length:=by omega
  simp[Jn,h0,h1,h2,h3,eV]
def EV (f:File)(i:Int)(kinds:List Int):Bool:=wi (eV f i).for_ 0 (i-1)&&(Ad f (eV f i).for_ (eV f i).part&&hasB kinds (eV f (eV f i).for_).kind)
theorem akq (f:File)(i:Int)(kinds:List Int)(h:0≤i∧i<f.signs.length)(hl:f.signs.length≤100000)(hk:kinds.length≤100):aw T 98 [dg f,.int i,ints kinds] (.bool (EV f i kinds)):=by
 refine .of_tree rfl (lA 84 (by kernel_rfl)) amU ?_;have h1:i.toNat<f.signs.length:=by omega
 have hw:IntKind.i64.wrap (i-1)=i-1:=cm (by omega);have hs:eV f i=f.signs[i.toNat]:=by simp[eV,h1]
 unfold EV;rw[hs];simp[Qs,h,h1,hw];refine⟨_,eT _ _ _,?_⟩;cases hb:wi f.signs[i.toNat].for_ 0 (i-1)
 ·simp
 ·have bl:0≤f.signs[i.toNat].for_∧f.signs[i.toNat].for_<f.signs.length:=by
   simp[wi] at hb;omega
  have h2:f.signs[i.toNat].for_.toNat<f.signs.length:=by omega
  have er:eV f f.signs[i.toNat].for_=f.signs[f.signs[i.toNat].for_.toNat]:=by simp[eV,h2]
  rw[er];simp;refine⟨_,X6 f _ _ (.inr bl),?_⟩;cases bX:Ad f f.signs[i.toNat].for_ f.signs[i.toNat].part
  ·simp
  simp[bl,h2];exact Ew kinds _ (by omega)
def TM (r:Realm)(b:Bill)(s:Sign)(B:List Int→Bool):Bool:=
 if s.kind=0 then((((decide (s.who=b.drawer)&&decide (s.sum=0))&&decide (cU .or .i64 s.flags 1=1))&&decide (s.part=0))&&decide (s.day=b.day))&&decide (s.city=b.city)
 else if s.kind=1 then decide (s.who=b.drawee)&&(wi s.sum 1 1099511627776&&decide (s.flags=0))
 else if s.kind=2 then((wi s.to (-1) ((r.firms.length:Int)-1)&&decide (s.sum=0))&&wi s.flags 0 7)&&decide (cU .and .i64 s.flags 6≠6)
 else if s.kind=3 then(decide (s.sum=0)&&decide (s.flags=0))&&B [0,1,2,4]
 else if s.kind=4 then((wi s.sum 1 1099511627776&&decide (s.flags=0))&&decide (s.who≠b.drawee))&&B [0,2]
 else false
def Lf (r:Realm)(b:Bill)(i:Nat)(s:Sign)(B:List Int→Bool):Bool:=
 if ¬(i=0↔s.kind=0)∨(¬s.kind=2∧¬s.to=-1) then false
 else if(¬s.kind=3∧¬s.kind=4)∧¬s.for_=-1 then false
 else TM r b s B
def Gd (r:Realm)(f:File)(i:Nat):Bool:=Lf r f.bill i (f.signs.getD i default) (EV f i)
theorem aks (r:Realm)(hr:Small r)(f:File)(i:Nat)(h:i<f.signs.length)(hl:f.signs.length≤100000):aw T 76 [bF r,dg f,.int i] (.bool (Gd r f i)):=by
 refine .of_tree rfl (lA 83 (by kernel_rfl)) amW ?_;have nz:=hr.firms;have hw:IntKind.i64.wrap ((r.firms.length:Int)-1)=(r.firms.length:Int)-1:=cm (by omega);have hs:f.signs.getD i default=f.signs[i]:=by simp[h]
 have LJ:=fun ks hk=>akq f i ks ⟨by omega,by omega⟩ hl hk;unfold Gd;rw[hs];generalize hB:EV f i=B at LJ ⊢;generalize hX:Lf r f.bill i f.signs[i] B=X;simp[Qu,h];generalize f.signs[i]=s at*;unfold Lf at hX;by_cases h1:¬(i=0↔s.kind=0)∨(¬s.kind=2∧¬s.to=-1)
 ·rw[if_pos h1] at hX ⊢;exact hX.symm
 rw[if_neg h1] at hX ⊢;by_cases h2:(¬s.kind=3∧¬s.kind=4)∧¬s.for_=-1
 ·rw[if_pos h2] at hX ⊢;exact hX.symm
 rw[if_neg h2] at hX ⊢;refine⟨_,eT _ _ _,?_⟩;unfold TM at hX;by_cases k0:s.kind=0
 ·rw[if_pos k0] at hX ⊢;rw[←hX];by_cases a:(((s.who=f.bill.drawer∧s.sum=0)∧cU BinOp.or IntKind.i64 s.flags 1=1)∧s.part=0)∧s.day=f.bill.day
  ·simp[a]
  ·rw[if_neg a]
   congr 1
   rw[eq_comm,RW];intro e;simp at e;exact a e.1
 rw[if_neg k0] at hX ⊢;by_cases k1:s.kind=1
 ·rw[if_pos k1] at hX ⊢;rw[←hX];by_cases a:s.who=f.bill.drawee<;>cases wi s.sum 1 1099511627776<;>simp[a]
 rw[if_neg k1] at hX ⊢;by_cases k2:s.kind=2
 ·rw[if_pos k2] at hX ⊢;rw[←hX,hw];refine⟨_,eT _ _ _,?_⟩;cases wi s.to (-1) ((r.firms.length:Int)-1)
  ·simp
  by_cases a:s.sum=0
  case neg=>simp[a]
  simp[a];refine⟨_,eT _ _ _,?_⟩;cases wi s.flags 0 7<;>simp
 rw[if_neg k2] at hX ⊢;by_cases k3:s.kind=3
 ·rw[if_pos k3] at hX ⊢;rw[←hX];by_cases a:s.sum=0∧s.flags=0
  case neg=>
   rw[if_neg a,if_neg a]
   congr 1
   rw[eq_comm,RW];intro e;simp at e;exact a e.1
  rw[if_pos a];refine⟨_,LJ [0,1,2,4] (by decide),?_⟩;simp[a]
 rw[if_neg k3] at hX ⊢;by_cases k4:s.kind=4
 ·rw[if_pos k4] at hX ⊢;rw[←hX];cases wi s.sum 1 1099511627776
  ·simp
  by_cases a:s.flags=0∧¬s.who=f.bill.drawee
  case neg=>
   simp[a]
  simp[a];exact LJ [0,2] (by decide)
 rw[if_neg k4] at hX ⊢;exact hX.symm
end Rm
namespace Rm
open Go Go.Proofs Cx
def sV (f:File)(i:Nat):Int:=if i=0 then f.bill.day else(f.signs.getD (i-1) default).day
def Jr (f:File)(i:Nat)(s:Sign):Bool:=(f.signs.take i).any fun x=>(decide (s.kind=1)&&decide (x.kind=1))&&decide (x.part=s.part)
def Ee (r:Realm)(f:File)(i:Nat):Int:=
 let s:=f.signs.getD i default
 if wi s.part 0 (f.bill.parts-1)=false then 15
 else if aH s.who r.firms.length=false∨aH s.city r.cities.length=false then 1
 else if wi s.day (sV f i) 100000=false∨(i=0∧¬s.day=sV f i) then 13
 else if Gd r f i=false then 14
 else if Jr f i s=true then 5 else 0
theorem X5 (r:Realm)(hr:Small r)(f:File)(hp:1≤f.bill.parts∧f.bill.parts≤4)(i:Nat)(h:i<f.signs.length)(hl:f.signs.length≤100000):aw T 43 [bF r,dg f,.int i] (.int (Ee r f i)):=by
 refine .of_tree rfl (lA 81 (by kernel_rfl)) amY ?_;have nz:=hr.firms;have UA:=hr.cities;have fA:IntKind.i64.wrap ((r.firms.length:Int)-1)=(r.firms.length:Int)-1:=cm (by omega);have fB:IntKind.i64.wrap ((r.cities.length:Int)-1)=(r.cities.length:Int)-1:=cm (by omega);have M4:IntKind.i64.wrap (f.bill.parts-1)=f.bill.parts-1:=cm (by omega);have hs:f.signs.getD i default=f.signs[i]:=by simp[h]
 generalize hX:Ee r f i=X;unfold Ee at hX;simp only[hs] at hX;simp[Qw,h,fA,fB,M4];refine⟨_,eT _ _ _,?_⟩;cases a1:wi f.signs[i].part 0 (f.bill.parts-1)
 ·simpa [a1] using hX
 simp[a1] at hX ⊢;refine⟨_,eT _ _ _,?_⟩;rw[y6] at hX;cases a2:wi f.signs[i].who 0 ((r.firms.length:Int)-1)
 ·simpa [a2] using hX
 simp[a2] at hX ⊢;refine⟨_,eT _ _ _,?_⟩;rw[y6] at hX;cases a3:wi f.signs[i].city 0 ((r.cities.length:Int)-1)
 ·simpa [a3] using hX
 simp[a3] at hX ⊢;refine⟨by omega,?_⟩;have G5:min i f.signs.length=i:=by omega
 refine aS.forRounds i (fun k=>[.int (sV f k),.bool ((f.signs.take k).any fun x=>(decide (f.signs[i].kind=1)&&decide (x.kind=1))&&decide (x.part=f.signs[i].part)),.int k]) (fun _=>[]) ?_ (fun k hk=>?_) ?_
 ·simp[sV]
 ·have hw:=bS hk (by omega);have bU:k<f.signs.length:=by omega
  have hf:sV f (k+1)=f.signs[k].day:=by simp[sV,bU]
  rw[uV bU,List.any_append];generalize ((f.signs.take k).any fun x=>(decide (f.signs[i].kind=1)&&decide (x.kind=1))&&decide (x.part=f.signs[i].part))=A;simp[YV,IJ,hk,bU,h,hw,hf,G5];cases A
  ·by_cases e1:f.signs[i].kind=1<;>by_cases e2:f.signs[k].kind=1<;>simp[e1,e2]
  ·simp
 ·have ht:Jr f i f.signs[i]=true↔∃x,x∈List.take i f.signs∧(f.signs[i].kind=1∧x.kind=1)∧x.part=f.signs[i].part:=by simp[Jr]
  simp[YV,IJ,G5,h];refine⟨_,eT _ _ _,?_⟩;by_cases a4:wi f.signs[i].day (sV f i) 100000=false∨(i=0∧¬f.signs[i].day=sV f i)
  ·rw[if_pos a4] at hX;rw[if_pos (by simpa using a4)];exact hX
  rw[if_neg a4] at hX;rw[if_neg (by simpa using a4)];refine⟨_,aks r hr f i h hl,?_⟩;cases a5:Gd r f i
  ·simpa [a5] using hX
  simp[a5] at hX;simp only[acm,if_true];rw[←hX];by_cases a6:Jr f i f.signs[i]=true
  ·rw[if_pos a6,if_pos (ht.1 a6)]
  ·rw[if_neg a6,if_neg (fun x=>a6 (ht.2 x))]
def EN (a:Act)(to at_ own:Bool):Bool:=
 if a.kind=0∨a.kind=1∨a.kind=2 then(to&&decide (a.at_=-1))&&decide (a.sum=0)
 else if a.kind=3∨a.kind=4∨a.kind=5 then((to&&decide (a.at_=-1))&&wi a.sum 0 1099511627776)&&wi a.form 0 1
 else if a.kind=6 then(to&&own)&&wi a.sum 1 1099511627776
 else if a.kind=9 then(decide (a.to=-1)&&own)&&decide (a.sum=0)
 else(decide (a.to=-1)&&at_)&&decide (a.sum=0)
def AH (f:File)(a:Act):Bool:=aH a.at_ f.signs.length&&Ad f a.at_ a.part
def Od (f:File)(a:Act):Bool:=AH f a&&decide ((eV f a.at_).who=a.who)
def sK (r:Realm)(f:File)(a:Act):Bool:=
 if aH a.who r.firms.length=false∨(¬a.kind=4∧¬a.form=0) then false else EN a (aH a.to r.firms.length) (AH f a) (Od f a)
theorem ako (r:Realm)(hr:Small r)(f:File)(a:Act)(hl:f.signs.length≤100000):aw T 77 [bF r,dg f,jx a] (.bool (sK r f a)):=by
 refine .of_tree rfl (lA 87 (by kernel_rfl)) amS ?_;have nz:=hr.firms;have fA:IntKind.i64.wrap ((r.firms.length:Int)-1)=(r.firms.length:Int)-1:=cm (by omega);have fB:IntKind.i64.wrap ((f.signs.length:Int)-1)=(f.signs.length:Int)-1:=cm (by omega);generalize hX:sK r f a=X;unfold sK Od AH at hX;simp[Qq,fA,fB];refine⟨_,eT _ _ _,?_⟩;rw[←y6];have y1:=eT a.to 0 ((r.firms.length:Int)-1);have CM:=eT a.who 0 ((r.firms.length:Int)-1);rw[←y6] at y1 CM;generalize aH a.to r.firms.length=tt at*;generalize aH a.who r.firms.length=ww at*;have fin:∀at_ own:Bool,(if ww=false∨(¬a.kind=4∧¬a.form=0) then false else EN a tt at_ own)=X→
  if ww=false∨(¬a.kind=4∧¬a.form=0) then X=false
  else if a.kind=0∨a.kind=1∨a.kind=2 then(if tt=true∧a.at_=-1 then D.bool (decide (a.sum=0)) else D.bool false)=D.bool X
  else if a.kind=3∨a.kind=5∨a.kind=4 then
        if tt=true∧a.at_=-1 then
         ∃d,aw (fm tab ext) 44 [D.int a.sum,D.int 0,D.int 1099511627776] d∧
          if(tt=true∧a.at_=-1)∧d.b=true then
             ∃A3,aw (fm tab ext) 44 [D.int a.form,D.int 0,D.int 1] A3∧(if(tt=true∧a.at_=-1)∧d.b=true then A3 else D.bool false)=D.bool X
          else(if(tt=true∧a.at_=-1)∧d.b=true then D.none else D.bool false)=D.bool X
        else D.bool false=D.bool X
  else if a.kind=6 then
        if tt=true∧own=true then ∃A3,aw (fm tab ext) 44 [D.int a.sum,D.int 1,D.int 1099511627776] A3∧(if tt=true∧own=true then A3 else D.bool false)=D.bool X
        else(if tt=true∧own=true then D.none else D.bool false)=D.bool X
  else if a.kind=9 then(if a.to=-1∧own=true then D.bool (decide (a.sum=0)) else D.bool false)=D.bool X
  else(if a.to=-1∧at_=true then D.bool (decide (a.sum=0)) else D.bool false)=D.bool X:=by
  intro at_ own hX;by_cases p:ww=false∨(¬a.kind=4∧¬a.form=0)
  ·rw[if_pos p] at hX ⊢;exact hX.symm
  rw[if_neg p] at hX ⊢;unfold EN at hX;by_cases k0:a.kind=0∨a.kind=1∨a.kind=2
  ·rw[if_pos k0] at hX ⊢;rw[←hX];by_cases e:tt=true∧a.at_=-1
   ·simp[e]
   ·rw[if_neg e];cases tt<;>simp at e ⊢;simp[e]
  rw[if_neg k0] at hX ⊢;by_cases k3:a.kind=3∨a.kind=4∨a.kind=5
  ·rw[if_pos k3] at hX;rw[if_pos (by omega),←hX];by_cases e:tt=true∧a.at_=-1
   ·rw[if_pos e];refine⟨_,eT _ _ _,?_⟩;cases wi a.sum 0 1099511627776
    ·simp
    ·simp[e];exact eT _ _ _
   ·rw[if_neg e];cases tt<;>simp at e ⊢;simp[e]
  rw[if_neg k3] at hX;rw[if_neg (by omega)];by_cases k6:a.kind=6
  ·rw[if_pos k6] at hX ⊢;rw[←hX];by_cases e:tt=true∧own=true
   ·rw[if_pos e];refine⟨_,eT _ _ _,?_⟩;simp[e]
   ·rw[if_neg e,if_neg e];cases tt<;>cases own<;>simp at e ⊢
  rw[if_neg k6] at hX ⊢;by_cases k9:a.kind=9
  ·rw[if_pos k9] at hX ⊢;rw[←hX];cases own<;>by_cases e:a.to=-1<;>simp[e]
  rw[if_neg k9] at hX ⊢;rw[←hX];cases at_<;>by_cases e:a.to=-1<;>simp[e]
 cases h1:aH a.at_ f.signs.length
 ·have hf:=fin false false (by simpa [h1] using hX);simp at hf ⊢;refine⟨_,y1,_,CM,?_⟩;simpa using hf
 have dq:0≤a.at_∧a.at_<f.signs.length:=by simpa [aH] using h1
 have h2:a.at_.toNat<f.signs.length:=by omega
 have hs:eV f a.at_=f.signs[a.at_.toNat]:=by simp[eV,h2]
 simp[dq];refine⟨_,X6 f _ _ (.inr dq),_,y1,_,CM,?_⟩;rw[h1,hs] at hX;have hf:=fin _ _ hX;cases h3:Ad f a.at_ a.part
 ·rw[h3] at hf;simpa using hf
 ·rw[h3] at hf;simpa [h2] using hf
theorem HP (a b:Int):(if a<b then b else a)=max a b:=by split<;>omega
theorem NB (a b:Int):(if a<b then D.int b else D.int a)=D.int (max a b):=by
 rw[←HP];split<;>rfl
def Nk (f:File)(i:Nat)(a:Act):Int:=
 let x:=if a.at_=-1 then f.bill.day else max f.bill.day (eV f a.at_).day
 if i=0 then x else max x (f.acts.getD (i-1) default).day
def sL (r:Realm)(f:File)(i:Nat):Int:=
 let a:=f.acts.getD i default
 if wi a.part 0 (f.bill.parts-1)=false then 15
 else if aH a.city r.cities.length=false∨wi a.kind 0 9=false then 1
 else if sK r f a=false then 14
 else if wi a.day (Nk f i a) 100000=false then 13 else 0
theorem Sz {r:Realm}{f:File}{a:Act}(h:sK r f a=true)(hn:¬a.at_=-1):0≤a.at_∧a.at_<f.signs.length:=by
 unfold sK at h;split at h
 ·cases h
 have key:AH f a=true→0≤a.at_∧a.at_<f.signs.length:=fun e=>by
  unfold AH at e;simp only[aj] at e;simpa [aH] using e.1
 unfold EN Od at h
 repeat' split at h
 all_goals simp only[aj,decide_eq_true_eq] at h
 ·exact absurd h.1.2 hn
 ·exact absurd h.1.1.2 hn
 ·exact key h.1.2.1
 ·exact key h.1.2.1
 ·exact key h.1.2
theorem akp (r:Realm)(hr:Small r)(f:File)(hp:1≤f.bill.parts∧f.bill.parts≤4)(hl:f.signs.length≤100000)(Cb:f.acts.length≤100000):aw T 45 [bF r,dg f] (.int (fp f.acts.length (sL r f))):=by
 refine .of_tree rfl (lA 86 (by kernel_rfl)) amT ?_;have UA:=hr.cities;have fB:IntKind.i64.wrap ((r.cities.length:Int)-1)=(r.cities.length:Int)-1:=cm (by omega);have M4:IntKind.i64.wrap (f.bill.parts-1)=f.bill.parts-1:=cm (by omega);simp[Qr];refine wP f.acts.length (sL r f) (fun k=>[.int 0,.int k]) (fun _=>[]) ?_ (fun k hk ho=>?_) (fun k hk ho hb=>?_) (fun hj=>?_)
 ·simp
 case' refine_2=>have hb:sL r f k=sL r f k:=rfl
 case' refine_3=>rw[hb]
 case refine_4=>simp[YT,IG,hj]
 all_goals
  have hw:=bS hk (by omega);have hs:f.acts.getD k default=f.acts[k]:=by simp[hk]
  clear hb;generalize hX:sL r f k=X at*;unfold sL at hX;simp only[hs] at hX;simp[YT,IG,hk,fB,M4,hw];refine⟨_,eT _ _ _,?_⟩;cases a1:wi f.acts[k].part 0 (f.bill.parts-1)
  ·simp[a1] at hX ⊢
   first|exact hX|(exfalso;omega)
  simp[a1] at hX ⊢;refine⟨_,eT _ _ _,?_⟩;rw[y6] at hX;cases a2:wi f.acts[k].city 0 ((r.cities.length:Int)-1)
  ·simp[a2] at hX ⊢
   first|exact hX|(exfalso;omega)
  simp[a2] at hX ⊢;refine⟨_,eT _ _ _,?_⟩;cases a3:wi f.acts[k].kind 0 9
  ·simp[a3] at hX ⊢
   first|exact hX|(exfalso;omega)
  simp[a3] at hX ⊢;refine⟨_,ako r hr f f.acts[k] hl,?_⟩;cases a4:sK r f f.acts[k]
  ·simp[a4] at hX ⊢
   first|exact hX|(exfalso;omega)
  simp[a4] at hX ⊢;unfold Nk at hX;by_cases k0:k=0
  ·subst k0;by_cases e1:f.acts[0].at_=-1
   ·simp[e1] at hX;simp[e1];refine⟨_,eT _ _ _,?_⟩;split at hX
    ·rename_i e;simp[e]
     first|exact hX|(exfalso;omega)
    ·rename_i e
     first|(exfalso;omega)|simp[e]
   ·obtain⟨h5,h6⟩:=Sz a4 e1;have h7:f.acts[0].at_.toNat<f.signs.length:=by omega
    have h8:eV f f.acts[0].at_=f.signs[f.acts[0].at_.toNat]:=by simp[eV,h7]
    simp[e1,h8] at hX;simp[e1,h5,h6,h7,NB,HP];refine⟨_,eT _ _ _,?_⟩;split at hX
    ·rename_i e;simp[e]
     first|exact hX|(exfalso;omega)
    ·rename_i e
     first|(exfalso;omega)|simp[e]
  ·have bH:IntKind.i64.wrap ((k:Int)-1)=(k:Int)-1:=cm (by omega);have bt:((k:Int)-1).toNat=k-1:=by omega
   have gE:k-1<f.acts.length:=by omega
   have lS:0<k:=by omega
   by_cases e1:f.acts[k].at_=-1
   ·simp[k0,e1,gE] at hX;simp[e1,lS,bH,bt,gE,NB,HP];refine⟨by omega,_,eT _ _ _,?_⟩;split at hX
    ·rename_i e;simp[e]
     first|exact hX|(exfalso;omega)
    ·rename_i e
     first|(exfalso;omega)|simp[e]
   ·obtain⟨h5,h6⟩:=Sz a4 e1;have h7:f.acts[k].at_.toNat<f.signs.length:=by omega
    have h8:eV f f.acts[k].at_=f.signs[f.acts[k].at_.toNat]:=by simp[eV,h7]
    simp[k0,e1,gE,h8] at hX;simp[e1,lS,bH,bt,gE,h5,h6,h7,NB,HP];refine⟨by omega,_,eT _ _ _,?_⟩;split at hX
    ·rename_i e;simp[e]
     first|exact hX|(exfalso;omega)
    ·rename_i e
     first|(exfalso;omega)|simp[e]
end Rm
namespace Rm
open Go Go.Proofs Cx
def ki (a b:Int):Int:=if a<b then-1 else if b<a then 1 else 0
theorem VP (a:Int):aw T 70 [.int a] (.bool false):=by
 refine .of_tree rfl (lA 90 (by kernel_rfl)) amD ?_;simp[Qc]
theorem Ev (a b:Int):aw T 38 [.int a,.int b] (.int (ki a b)):=by
 refine .of_tree rfl (lA 89 (by kernel_rfl)) amB ?_;simp[Qa];refine⟨_,VP a,_,VP b,?_⟩;unfold ki;by_cases h1:a<b
 ·simp[h1]
 by_cases h2:b<a<;>simp[h1,h2]
theorem So (l:List Int)(hl:l.length≤100000):aw T 37 [ints l] (.int (fp l.length fun k=>l.getD k 0)):=by
 refine .of_tree rfl (lA 91 (by kernel_rfl)) amC ?_;simp[Qb];refine wP l.length (fun k=>l.getD k 0) (fun k=>[.int 0,.int k]) (fun _=>[]) ?_ (fun k hk ho=>?_) (fun k hk ho hb=>?_) (fun hj=>?_)
 ·simp
 ·have hw:=bS hk (by omega);have hx:l[k]=0:=by simpa [hk] using ho
  simp[OW,Du,hk,hx,hw]
 ·have hx:¬l[k]=0:=by simpa [hk] using ho
  simp only[aF] at hb ⊢;rw[hb];simp[OW,Du,hk,hx]
 ·simp only[aF] at hj ⊢;rw[hj];simp[OW,Du]
theorem X2 (a b:Int):(fp 2 fun k=>[a,b].getD k 0)=if a=0 then b else a:=by
 have e:List.range 2=[0,1]:=rfl;unfold fp;rw[e];by_cases ha:a=0<;>by_cases hb:b=0<;>simp[ha,hb]
def ct (x y:Fact):Prop:=x.at_<y.at_∨(x.at_=y.at_∧x.kind<y.kind)
instance (x y:Fact):Decidable (ct x y):=by unfold ct;infer_instance
theorem aaV (x y:Fact):0≤(if ki x.at_ y.at_=0 then ki x.kind y.kind else ki x.at_ y.at_)↔¬ct x y:=by
 unfold ki ct
 repeat' split
 all_goals omega
def p6 (f:File)(i:Nat):Int:=
 let x:=f.facts.getD i default
 if wi x.kind 0 4=false then 1 else if aH x.at_ f.signs.length=false then 1 else if wi x.n 0 1=false then 1
 else if i=0 then 0 else if ct (f.facts.getD (i-1) default) x then 0 else 5
theorem akr (f:File)(hl:f.signs.length≤100000)(hlf:f.facts.length≤100000):aw T 46 [dg f] (.int (fp f.facts.length (p6 f))):=by
 refine .of_tree rfl (lA 88 (by kernel_rfl)) amV ?_;have fB:IntKind.i64.wrap ((f.signs.length:Int)-1)=(f.signs.length:Int)-1:=cm (by omega);simp[Qt];refine wP f.facts.length (p6 f) (fun k=>[.int 0,.int k]) (fun _=>[]) ?_ (fun k hk ho=>?_) (fun k hk ho hb=>?_) (fun hj=>?_)
 ·simp
 case' refine_2=>have hb:p6 f k=p6 f k:=rfl
 case' refine_3=>rw[hb]
 case refine_4=>simp[YU,II,hj]
 all_goals
  have hw:=bS hk (by omega);have hs:f.facts.getD k default=f.facts[k]:=by simp[hk]
  clear hb;generalize hX:p6 f k=X at*;unfold p6 at hX;simp only[hs] at hX;simp[YU,II,hk,fB,hw];refine⟨_,eT _ _ _,?_⟩;cases a1:wi f.facts[k].kind 0 4
  ·simp[a1] at hX ⊢
   first|exact hX|(exfalso;omega)
  simp[a1] at hX ⊢;refine⟨_,eT _ _ _,?_⟩;rw[y6] at hX;cases a2:wi f.facts[k].at_ 0 ((f.signs.length:Int)-1)
  ·simp[a2] at hX ⊢
   first|exact hX|(exfalso;omega)
  simp[a2] at hX ⊢;refine⟨_,eT _ _ _,?_⟩;cases a3:wi f.facts[k].n 0 1
  ·simp[a3] at hX ⊢
   first|exact hX|(exfalso;omega)
  simp[a3] at hX ⊢;by_cases k0:k=0
  ·subst k0;simp at hX ⊢
   first|(exfalso;omega)|done
  ·have bH:IntKind.i64.wrap ((k:Int)-1)=(k:Int)-1:=cm (by omega);have bt:((k:Int)-1).toNat=k-1:=by omega
   have gE:k-1<f.facts.length:=by omega
   simp[k0,gE] at hX;simp[k0,bH,bt,gE];refine⟨by omega,_,Ev _ _,_,Ev _ _,?_⟩;have ho:=So [ki f.facts[k-1].at_ f.facts[k].at_,ki f.facts[k-1].kind f.facts[k].kind] (by simp);simp only[og,Au] at ho;rw[X2] at ho;refine⟨_,ho,?_⟩;have ha:=aaV f.facts[k-1] f.facts[k];generalize (if ki f.facts[k-1].at_ f.facts[k].at_=0 then ki f.facts[k-1].kind f.facts[k].kind else ki f.facts[k-1].at_ f.facts[k].at_)=n at*;clear ho;by_cases e:ct f.facts[k-1] f.facts[k]
   ·have hn:¬0≤n:=fun h=>ha.1 h e;simp[e] at hX;simp[hn]
    first|done|(exfalso;omega)
   ·have hn:0≤n:=ha.2 e;simp[e] at hX;simp[hn]
    first|exact hX|(exfalso;omega)
def xe (f:File)(i:Nat):Int:=
 let x:=f.alters.getD i default
 if wi x.at_ ((if i=0 then 0 else(f.alters.getD (i-1) default).at_)+1) f.signs.length=false then 1 else if wi x.sum 1 1099511627776=false then 3 else 0
structure PaperOK (r:Realm) (f:File):Prop where
 full:(f.signs.length≤40∧f.alters.length≤4)∧f.acts.length≤100∧f.facts.length≤200
 bill:BillOK r f.bill
 ne:f.signs≠[]
 signs:fp f.signs.length (Ee r f)=0
 alters:fp f.alters.length (xe f)=0
 acts:fp f.acts.length (sL r f)=0
 facts:fp f.facts.length (p6 f)=0
theorem akn (r:Realm)(hs:Small r)(f:File)(Lt:f.OK):∃d,aw T 21 [bF r,dg f] d∧oe (PaperOK r f) d:=by
 refine aw.ex_of_tree rfl aa8 amR ?_;simp[Qp];by_cases hf:(f.signs.length≤40∧f.alters.length≤4)∧f.acts.length≤100∧f.facts.length≤200
 case neg=>
  rw[if_pos (by omega)];exact .no (fun h=>hf h.full) (by decide)
 rw[if_neg (by omega)];obtain⟨d,hb,e,rfl,he⟩:=aop r hs f.bill;refine⟨_,hb,?_⟩;by_cases e0:e=0
 case neg=>
  simp[e0];exact .no (fun h=>e0 (he.2 h.bill)) e0
 have GD:=he.1 e0;simp[e0];by_cases az:f.signs=[]
 ·simp[az];exact .no (fun h=>h.ne az) (by decide)
 simp[az];refine wP f.signs.length (Ee r f) (fun k=>[.int 0,.int k]) (fun _=>[]) ?_ (fun k hk ho=>?_) (fun k hk ho hb=>?_) (fun hj=>?_)
 ·simp
 ·have hw:=bS hk (by omega);simp[OZ,Dw,hk,hw];refine⟨_,X5 r hs f GD.parts k hk (by omega),?_⟩;simp[ho]
 ·simp[OZ,Dw,hk];refine⟨_,X5 r hs f GD.parts k hk (by omega),?_⟩;simp[ho];exact .no (fun h=>ho (by rw[←hb];exact h.signs)) ho
 simp[OZ,Dw];have kC:∀k,k<f.alters.length→(∀j,j<k→xe f j=0)→IntKind.i64.wrap ((if k=0 then 0 else(f.alters.getD (k-1) default).at_)+1)=(if k=0 then 0 else(f.alters.getD (k-1) default).at_)+1:=by
  intro k hk hj;refine cm ?_;by_cases k0:k=0
  ·rw[if_pos k0];omega
  ·rw[if_neg k0];have h1:=hj (k-1) (by omega);have bH:k-1<f.alters.length:=by omega
   have h2:=(Lt.2.2.1.2 _ (ec bH)).1;have h3:f.alters.getD (k-1) default=f.alters[k-1]:=by simp[bH]
   unfold xe at h1;rw[h3] at h1 ⊢;simp only at h1;generalize (if k-1=0 then(0:Int) else(f.alters.getD (k-1-1) default).at_)=L0 at h1;split at h1
   ·cases h1
   ·rename_i hh;simp[wi] at hh;unfold aT at h2;omega
 refine aS.scan f.alters.length (fun k=>xe f k=0) (fun k=>[.int 0,.int (if k=0 then 0 else(f.alters.getD (k-1) default).at_),.int k]) (fun _=>[]) ?_ (fun k hk vH ho=>?_) (fun k hk vH ho=>?_) (fun vG=>?_)
 ·simp
 ·have hw:=bS hk (by omega);have hl:=kC k hk vH;generalize hL:(if k=0 then 0 else(f.alters.getD (k-1) default).at_)=L at*;have hs:f.alters.getD k default=f.alters[k]:=by simp[hk]
  unfold xe at ho;simp only[hs,hL] at ho;simp[O0,Dx,hk,hl];refine⟨_,eT _ _ _,?_⟩;cases a1:wi f.alters[k].at_ (L+1) f.signs.length
  ·simp[a1] at ho
  simp[a1] at ho ⊢;refine⟨_,eT _ _ _,?_⟩;simp[ho,hw]
 ·have hl:=kC k hk vH;have B2:=Lb hk vH ho;generalize hL:(if k=0 then 0 else(f.alters.getD (k-1) default).at_)=L at*;have hs:f.alters.getD k default=f.alters[k]:=by simp[hk]
  have bad:∀e:Int,e≠0→oe (PaperOK r f) (.int e):=fun e h=>.no (fun h=>ho (by rw[←B2];exact h.alters)) h;unfold xe at ho;simp only[hs,hL] at ho;simp[O0,Dx,hk,hl];refine⟨_,eT _ _ _,?_⟩;cases a1:wi f.alters[k].at_ (L+1) f.signs.length
  ·simp;exact bad 1 (by decide)
  simp[a1] at ho ⊢;refine⟨_,eT _ _ _,?_⟩;simp[ho];exact bad 3 (by decide)
 have vG:=Ld vG;simp[O0,Dx];refine⟨_,akp r hs f GD.parts (by omega) (by omega),?_⟩;by_cases e3:fp f.acts.length (sL r f)=0
 case neg=>
  simp[e3];exact .no (fun h=>e3 h.acts) e3
 simp[e3];refine⟨_,akr f (by omega) (by omega),?_⟩;exact⟨_,rfl,fun h=>⟨hf,GD,az,hj,vG,e3,h⟩,fun h=>h.facts⟩
end Rm
namespace Rm
open Go Go.Proofs Cx
end Rm
namespace Rm
open Go Go.Proofs Cx
end Rm
namespace Rm
open Go Go.Proofs Cx
structure Ep (r:Realm) (f:File) (i:Nat) (a:Act):Prop where
 part:0≤a.part∧a.part≤f.bill.parts-1
 city:0≤a.city∧a.city<r.cities.length
 kind:0≤a.kind∧a.kind≤9
 fits:sK r f a=true
 day:Nk f i a≤a.day∧a.day≤100000
end Rm
namespace Rm
open Go Go.Proofs Cx
def JA (n:Nat)(x:Fact):Prop:=wi x.kind 0 4=true∧aH x.at_ n=true∧wi x.n 0 1=true
structure FactsOK (n:Nat) (l:List Fact):Prop where
 each:∀x,x∈l→JA n x
 sorted:l.Pairwise ct
theorem J1 {x y z:Fact}(h1:ct x y)(h2:ct y z):ct x z:=by unfold ct at*;omega
theorem akm {l:List Fact}(h:∀i (h1:i+1<l.length),ct (l[i]'(by omega)) l[i+1]):l.Pairwise ct:=by
 rw[EF];intro i j hi hj cq;obtain⟨d,rfl⟩:∃d,j=i+1+d:=⟨j-i-1,by omega⟩
 clear cq
 induction d with
 |zero=>exact h i hj
 |succ d ih=>exact J1 (ih (by omega)) (h (i+1+d) hj)
theorem K5 {f:File}{i:Nat}(hi:i<f.facts.length):p6 f i=0↔(JA f.signs.length f.facts[i]∧(i=0∨ct (f.facts.getD (i-1) default) f.facts[i])):=by
 have hs:f.facts.getD i default=f.facts[i]:=by simp[hi]
 unfold p6 JA;simp only[hs];constructor
 ·intro h;split at h
  ·cases h
  rename_i a1;split at h
  ·cases h
  rename_i a2;split at h
  ·cases h
  rename_i a3;refine⟨⟨by simpa using a1,by simpa using a2,by simpa using a3⟩,?_⟩;split at h
  ·rename_i a4;exact .inl a4
  split at h
  ·rename_i a4;exact .inr a4
  ·cases h
 ·rintro⟨⟨a1,a2,a3⟩,h⟩;rw[a1,a2,a3];simp only[Bool.true_eq_false,if_false];rcases h with h|h
  ·rw[if_pos h]
  ·rw[if_pos h];split<;>rfl
theorem adu (f:File):fp f.facts.length (p6 f)=0↔FactsOK f.signs.length f.facts:=by
 rw[Lc];constructor
 ·intro h;refine⟨fun x hx=>?_,akm fun i h1=>?_⟩
  ·obtain⟨i,hi,rfl⟩:=gy hx;exact((K5 hi).1 (h i hi)).1
  ·have:=((K5 h1).1 (h (i+1) h1)).2;rcases this with e|e
   ·cases e
   ·have hi:i<f.facts.length:=by omega
    simpa [hi] using e
 ·intro h i hi;refine(K5 hi).2 ⟨h.each _ (ec hi),?_⟩;by_cases e:i=0
  ·exact .inl e
  ·right;have cv:i-1<f.facts.length:=by omega
   have:=EF.1 h.sorted (i-1) i cv hi (by omega);simpa [cv] using this
theorem CY (x y:Fact):oW x y=true↔ct y x:=by unfold oW ct;simp
theorem s9 (x y:Fact):jU x y=true↔ct x y:=by
 unfold jU ct;simp;constructor<;>rintro(h|h)
 ·exact .inl h
 ·exact .inr ⟨h.1.symm,h.2⟩
 ·exact .inl h
 ·exact .inr ⟨h.1.symm,h.2⟩
end Rm
namespace Rm
open Go Go.Proofs Cx
abbrev ajs:Nat:=16
theorem aaH (x:Fact)(k a:Int):aw T 32 [jS x,.ref (.int k),.ref (.int a)] (.bool (nr k a x)):=by
 refine .of_tree rfl (lA 93 (by kernel_rfl)) amw ?_;unfold nr;by_cases h1:x.kind=k<;>by_cases h2:x.at_=a<;>simp[P6,h1,h2]
def fx (k a n:Int):Fact:=⟨k,a,if n=0 then 0 else 1⟩
theorem aaI (x y:Fact):aw T 36 [jS y,.ref (.int x.at_),.ref (.int x.kind)] (.bool (jU x y)):=by
 refine .of_tree rfl (lA 94 (by kernel_rfl)) amx ?_;simp[P7];refine⟨_,Ev y.at_ x.at_,_,Ev y.kind x.kind,_,So [ki y.at_ x.at_,ki y.kind x.kind] (by simp),?_⟩;rw[show([ki y.at_ x.at_,ki y.kind x.kind]:List Int).length=2 from rfl,X2];simp;unfold jU ki;by_cases h1:y.at_<x.at_
 ·have h2:¬x.at_<y.at_:=by omega
  have h3:¬y.at_=x.at_:=by omega
  simp[h1,h2,h3]
 by_cases h2:x.at_<y.at_
 ·simp[h1,h2]
 have h3:y.at_=x.at_:=by omega
 by_cases h4:y.kind<x.kind
 ·have h5:¬x.kind<y.kind:=by omega
  simp[h3,h4,h5]
 by_cases h5:x.kind<y.kind<;>simp[h3,h4,h5]
theorem R0 (l:List Fact)(f:Nat)(caps:List D)(g:Nat→Bool)(hg:∀k (hk:k<l.length),aw T f (jS l[k]::caps) (.bool (g k)))(hl:l.length≤4294967296):
 aw T 34 [facts l,.clo f caps] (.int (j0 l.length g)):=by
 refine .of_tree rfl (lA 92 (by kernel_rfl)) anC ?_;simp[Q8];refine .scan l.length (fun k=>g k=false) (fun k=>[.int 0,.int k]) (fun _=>[]) ?_ (fun k hk hj ho=>?_) (fun k hk hj ho=>?_) (fun hj=>?_)
 ·simp
 ·have hw:=bS hk hl;simp[Po,DS,hk,hw];refine⟨_,_,⟨rfl,rfl⟩,_,hg k hk,?_⟩;simp[ho,hw]
 ·have he:=Ht hk (by simpa using ho) hj;simp[Po,DS,hk,he];refine⟨_,_,⟨rfl,rfl⟩,_,hg k hk,?_⟩;simp[ho]
 ·have he:=CS hj;simp[Po,DS,he]
def qD (f:File)(x:Fact):File:={f with facts:=pG f.facts x}
theorem ZS {α:Type}{p:α→Bool}{l:List α}(i:Nat)(h1:∀j (hj:j<l.length),j<i→p l[j]=true)(h2:∀j (hj:j<l.length),i≤j→p l[j]=false):l.filter p=l.take i:=by
 have e:l.filter p=(l.take i++l.drop i).filter p:=by rw[sG]
 rw[e,EB,JE.2,JD.2,kO]
 ·intro y hy hp;obtain⟨j,hj,rfl⟩:=gy hy;have bp:i+j<l.length:=by simp at hj;omega
  rw[List.getElem_drop,h2 (i+j) bp (by omega)] at hp;cases hp
 ·intro y hy;obtain⟨j,hj,rfl⟩:=gy hy;have bp:j<l.length∧j<i:=by simp at hj;omega
  rw[Sb];exact h1 j bp.1 bp.2
theorem ZT {α:Type}{p:α→Bool}{l:List α}(i:Nat)(h1:∀j (hj:j<l.length),j<i→p l[j]=false)(h2:∀j (hj:j<l.length),i≤j→p l[j]=true):l.filter p=l.drop i:=by
 have e:l.filter p=(l.take i++l.drop i).filter p:=by rw[sG]
 rw[e,EB,JD.2,JE.2,qT]
 ·intro y hy;obtain⟨j,hj,rfl⟩:=gy hy;have bp:i+j<l.length:=by simp at hj;omega
  rw[List.getElem_drop];exact h2 (i+j) bp (by omega)
 ·intro y hy hp;obtain⟨j,hj,rfl⟩:=gy hy;have bp:j<l.length∧j<i:=by simp at hj;omega
  rw[Sb,h1 j bp.1 bp.2] at hp;cases hp
theorem NG {x y:Fact}(h:ct x y):¬ct y x:=by unfold ct at*;omega
theorem aaW {x y:Fact}(h1:¬ct x y)(h2:¬ct y x):y.kind=x.kind∧y.at_=x.at_:=by unfold ct at*;omega
theorem aom {l:List Fact}(hs:l.Pairwise ct)(x:Fact)(i:Nat)(hi:i<l.length)(h:l[i].kind=x.kind∧l[i].at_=x.at_):pG l x=l.take i++[x]++l.drop (i+1):=by
 have hp:=EF.1 hs;have c1:∀y,ct y l[i]↔ct y x:=fun y=>by unfold ct;rw[h.1,h.2]
 have c2:∀y,ct l[i] y↔ct x y:=fun y=>by unfold ct;rw[h.1,h.2]
 have no:¬ct l[i] x:=fun e=>by unfold ct at e;omega
 have no':¬ct x l[i]:=fun e=>by unfold ct at e;omega
 have e1:l.filter (oW x)=l.take i:=ZS i (fun j hj eO=>(CY x _).2 ((c1 _).1 (hp j i hj hi eO))) (fun j hj cq=>by
  cases e:oW x l[j] with
  |false=>rfl
  |true=>
   have e:=(CY x _).1 e;rcases Sk cq with h'|rfl
   ·exact absurd ((c1 _).2 e) (NG (hp i j hi hj h'))
   ·exact absurd e no)
 have e2:l.filter (jU x)=l.drop (i+1):=ZT (i+1) (fun j hj cq=>by
  cases e:jU x l[j] with
  |false=>rfl
  |true=>
   have e:=(s9 x _).1 e;rcases Sk (Nat.le_of_lt_succ cq) with h'|rfl
   ·exact absurd ((c2 _).2 e) (NG (hp j i hj hi h'))
   ·exact absurd e no') (fun j hj eO=>(s9 x _).2 ((c2 _).1 (hp i j hi hj (by omega))))
 unfold pG;rw[e1,e2]
theorem aag {l:List Fact}(hs:l.Pairwise ct)(x:Fact)(j:Nat)(hj:j≤l.length)(hn:∀y,y∈l→¬(y.kind=x.kind∧y.at_=x.at_))(h1:∀i (hi:i<l.length),i<j→jU x l[i]=false)(h2:∀(hi:j<l.length),jU x l[j]=true):
 pG l x=l.take j++[x]++l.drop j:=by
 have hp:=EF.1 hs
 have g2:∀i (hi:i<l.length),j≤i→jU x l[i]=true:=fun i hi eO=>by
  have fc:j<l.length:=by omega
  rcases Sk eO with h'|rfl
  ·exact(s9 x _).2 (J1 ((s9 x _).1 (h2 fc)) (hp j i fc hi h'))
  ·exact h2 hi
 have e1:l.filter (oW x)=l.take j:=ZS j (fun i hi cq=>by
  have hg:=h1 i hi cq;refine(CY x _).2 ?_;refine w6 fun e=>?_;have fb:¬ct x l[i]:=fun e'=>by rw[(s9 x _).2 e'] at hg;cases hg
  exact hn _ (ec hi) (aaW fb e)) (fun i hi eO=>by
  cases e:oW x l[i] with
  |false=>rfl
  |true=>exact absurd ((CY x _).1 e) (NG ((s9 x _).1 (g2 i hi eO))))
 have e2:l.filter (jU x)=l.drop j:=ZT j h1 g2;unfold pG;rw[e1,e2]
theorem I7 (f:File)(k a n:Int):Ec [dg f,.int k,.int a,.int n]=dg (qD f (fx k a n)):=by
 have e:(facts (pG f.facts (fx k a n)):D)=.list ((f.facts.map jS).filter (fun y=>decide ((y.c 1).i<a)||(decide ((y.c 1).i=a)&&decide ((y.c 0).i<k)))++[uy k a n]++(f.facts.map jS).filter (fun y=>decide (a<(y.c 1).i)||(decide ((y.c 1).i=a)&&decide (k<(y.c 0).i)))):=by
  unfold facts pG;rw[List.filter_map,List.filter_map,m9,m9];rfl
 show D.agg _=D.agg _;rw[show facts (qD f (fx k a n)).facts=_ from e];rfl
theorem ZN {f:File}(hs:f.facts.Pairwise ct)(hl:f.facts.length≤100000)(k a n:Int):aw T ajs [dg f,.int k,.int a,.int n] (dg (qD f (fx k a n))):=by
 have hI:∀l:List Fact,l.length≤100000→aw T 34 [facts l,.clo 32 [.ref (.int k),.ref (.int a)]] (.int (j0 l.length fun i=>nr k a (l.getD i default))):=fun l hl=>
  R0 l _ _ _ (fun i hi=>by simpa [hi] using aaH l[i] k a) (by omega)
 have hJ:aw T 34 [facts f.facts,.clo 36 [.ref (.int a),.ref (.int k)]] (.int (j0 f.facts.length fun i=>jU (fx k a n) (f.facts.getD i default))):=
  R0 f.facts _ _ _ (fun i hi=>by have:=aaI (fx k a n) f.facts[i];simpa [hi,fx] using this) (by omega)
 refine aw.of_ext (g:=z7) rfl ?_;obtain⟨n0,h0⟩:=hI f.facts hl;obtain⟨n2,h2⟩:=hJ;have eH:(dg f).cells[18]?=some (.list (f.facts.map jS)):=rfl;have hp:=EF.1 hs
 have key:∀m,Sq (T m) [dg f,.int k,.int a,.int n] (Ec [dg f,.int k,.int a,.int n])→z7 (T m) [dg f,.int k,.int a,.int n]=some (dg (qD f (fx k a n))):=fun m h=>by
  unfold z7;rw[if_pos h,I7]
 rcases v3 f.facts.length (fun i=>nr k a (f.facts.getD i default)) with⟨e1,e2⟩|⟨i,hi,e1,e2,e3⟩
 ·rw[e1] at h0
  have hn:∀y,y∈f.facts→¬(y.kind=(fx k a n).kind∧y.at_=(fx k a n).at_):=fun y hy e=>by
   obtain⟨i,hi,rfl⟩:=gy hy;have:=e2 i hi;simp[hi,nr] at this;exact this e.1 e.2
  refine⟨max n0 n2,fun m hm=>key m ?_⟩;refine⟨_,k,a,n,f.facts.map jS,rfl,eH,by rw[fl];omega,.inr ⟨h0 m (by omega),?_⟩⟩;rw[fl];rcases v3 f.facts.length (fun i=>jU (fx k a n) (f.facts.getD i default)) with⟨g1,g2⟩|⟨j,hj,g1,g2,g3⟩
  ·rw[g1] at h2;refine⟨f.facts.length,-1,h2 m (by omega),.inl ⟨by omega,rfl⟩,?_⟩;have hw:=aag hs (fx k a n) f.facts.length (aU _) hn (fun i hi _=>by have:=g2 i hi;simpa [hi] using this) (fun h=>by omega);rw[I7];show D.agg _=D.agg _;unfold qD;simp only[facts,hw,m9,Se,JL];rfl
  ·rw[g1] at h2;refine⟨j,j,h2 m (by omega),.inr ⟨rfl,by omega⟩,?_⟩;have hw:=aag hs (fx k a n) j (by omega) hn (fun i hi cq=>by have:=g3 i cq;simpa [hi] using this) (fun h=>by simpa [h] using g2);rw[I7];show D.agg _=D.agg _;unfold qD;simp only[facts,hw,m9,Se,JL];rfl
 ·rw[e1] at h0;have hf:f.facts[i].kind=k∧f.facts[i].at_=a:=by simpa [hi,nr] using e2
  obtain⟨n1,h1⟩:=hI (f.facts.drop (i+1)) (by rw[qQ];omega)
  have Ck:j0 (f.facts.drop (i+1)).length (fun j=>nr k a ((f.facts.drop (i+1)).getD j default))=-1:=by
   refine CS fun j hj=>?_;have bp:i+1+j<f.facts.length:=by rw[qQ] at hj;omega
   have hah:=hp i (i+1+j) hi bp (by omega);have hg:(f.facts.drop (i+1)).getD j default=f.facts[i+1+j]:=by simp[bp]
   rw[hg];unfold ct at hah;simp[nr];omega
  rw[Ck] at h1;refine⟨max n0 n1,fun m hm=>key m ?_⟩;refine⟨_,k,a,n,f.facts.map jS,rfl,eH,by rw[fl];omega,.inl ⟨i,by rw[fl];exact hi,h0 m (by omega),?_,?_⟩⟩
  ·have:=h1 m (by omega);unfold facts at this;rw[JL] at this;exact this
  ·have hw:=aom hs (fx k a n) i hi hf;rw[I7];show D.agg _=D.agg _;unfold qD;simp only[facts,hw,m9,Se,JL];rfl
def yh (x y:Said):Int:=
 if(x.err=0∧x.cell.known=false)∨(y.err=0∧y.cell.known=false) then 2
 else if ¬(x.err=0↔y.err=0)∨(x.err=0∧x.cell.n≠y.cell.n) then 1 else 0
def lO (r:Realm)(a b q:Int)(c:Case):Int:=yh (xh r a q c) (xh r b q c)
theorem Ex (r:Realm)(hr:Right r)(a b q:Int)(c:Case)(hf:FewS c.file):aw T 13 [bF r,.int a,.int b,.int q,cD c] (.int (lO r a b q c)):=by
 refine .of_tree rfl (lA 5 (by kernel_rfl)) amv ?_;simp[P5];refine⟨_,SI r hr a q c hf,_,SI r hr b q c hf,?_⟩;unfold lO yh;generalize xh r a q c=x;generalize xh r b q c=y;by_cases h1:x.err=0<;>by_cases h2:y.err=0<;>cases h3:x.cell.known<;>cases h4:y.cell.known<;>by_cases h5:x.cell.n=y.cell.n<;>simp[h1,h2,h3,h4,h5]
theorem acp (x y:Said):yh x y=yh y x:=by
 unfold yh;by_cases h1:x.err=0<;>by_cases h2:y.err=0<;>cases h3:x.cell.known<;>cases h4:y.cell.known<;>by_cases h5:x.cell.n=y.cell.n<;>simp[h1,h2,h3,h4,h5,eq_comm]<;>omega
end Rm
namespace Rm
open Go Go.Proofs Cx
def gn:Nat→Nat→List (List Int)
 |0,_=>[[]]
 |s+1,k=>(List.range (5-k)).flatMap fun i=>(gn s (k+i+1)).map fun l=>((k+i:Nat):Int)::l
theorem TV {α β:Type}(f:α→List β)(n:Nat)(h:∀a,(f a).length≤n)(l:List α):(l.flatMap f).length≤l.length*n:=by
 induction l with
 |nil=>simp
 |cons a l ih=>
  rw[qO,iK,og,Nat.succ_mul];have:=h a;omega
theorem Hz:∀(s k:Nat),(gn s k).length≤5^s
 |0,_=>by simp[gn]
 |s+1,k=>by
  have:=TV (fun i=>(gn s (k+i+1)).map fun l=>((k+i:Nat):Int)::l) (5^s) (fun i=>by rw[fl];exact Hz s _) (List.range (5-k));rw[EE] at this;show((List.range (5-k)).flatMap _).length≤_;refine cC this ?_;rw[Nat.pow_succ,JP (5^s)];exact mC _ (by omega)
theorem Hy:∀(s k:Nat),∀l,l∈gn s k→l.length=s
 |0,_,l,h=>by simp[gn] at h;simp[h]
 |s+1,k,l,h=>by
  obtain⟨i,_,h⟩:=iL.1 h;obtain⟨l',h',rfl⟩:=eE.1 h;simp[Hy s _ l' h']
theorem Nn:∀(s:Nat),s≤5→∀(k:Nat),k≤6→aw T 27 [.int s,.int k] (.list ((gn s k).map ints))
 |0,_,k,_=>by
  refine .of_tree rfl SK Z5 ?_;simp[Jm,gn]
  try rfl
 |s+1,hs,k,hk=>by
  have ih:=Nn s (by omega);refine .of_tree rfl SK Z5 ?_;have h0:¬((s:Int)+1=0):=by omega
  simp[Jm,h0]
  have hF:gn (s+1) k=(List.range (5-k)).flatMap fun i=>(gn s (k+i+1)).map fun l=>((k:Int)+i)::l:=by
   show(List.range (5-k)).flatMap _=_
   congr 1
  have hlen:∀i,i≤5-k→((List.range i).flatMap fun i=>(gn s (k+i+1)).map fun l=>((k:Int)+i)::l).length≤5*5^s:=fun i hi=>by
   have:=TV (fun i:Nat=>(gn s (k+i+1)).map fun l=>((k:Int)+i)::l) (5^s) (fun i=>by rw[fl];exact Hz s _) (List.range i);rw[EE] at this;exact cC this (mC _ (by omega))
  have h5:5^s≤3125:=cC (Sl (by omega) (show s≤5 by omega)) (by decide);refine aS.forRounds (5-k) (fun i=>[.none,.int ((k:Int)+i)]) (fun i=>[.list (((List.range i).flatMap fun i=>(gn s (k+i+1)).map fun l=>((k:Int)+i)::l).map ints)]) ?_ (fun i hi=>?_) ?_
  ·simp
  ·have ae:(k:Int)+i<5:=by omega
   have fA:IntKind.i64.wrap (s:Int)=s:=cm (by omega);have fB:IntKind.i64.wrap ((k:Int)+i+1)=((k+i+1:Nat):Int):=by rw[cm (by omega)];omega
   have hr:=ih (k+i+1) (by omega)
   have hR:((List.range (i+1)).flatMap fun i=>(gn s (k+i+1)).map fun l=>((k:Int)+i)::l)=((List.range i).flatMap fun i=>(gn s (k+i+1)).map fun l=>((k:Int)+i)::l)++(gn s (k+i+1)).map fun l=>((k:Int)+i)::l:=by
    rw[Si,R8];simp
   have hP:=hlen i (by omega);have hPi:=hlen (i+1) (by omega);rw[hR] at hPi;have hXl:=Hz s (k+i+1);have hXe:=Hy s (k+i+1);simp[YR,IE,ae,fA,fB];rw[hR];generalize ((List.range i).flatMap fun i=>(gn s (k+i+1)).map fun l=>((k:Int)+i)::l)=P at*;generalize gn s (k+i+1)=X at*;refine⟨_,hr,?_⟩;refine aS.forRounds X.length (fun j=>[.none,.int j]) (fun j=>[.list ((P++(X.take j).map fun l=>((k:Int)+i)::l).map ints)]) ?_ (fun j hj=>?_) ?_
   ·simp
   ·have CN:=bS hj (by omega);have iu:=hXe X[j] (ec hj);have Hl:X.take (j+1)=X.take j++[X[j]]:=by simp
    simp[YQ,ID,hj,CN];refine⟨by omega,by omega,?_⟩;rw[List.take_add_one,cA,bo hj];rfl
   ·simp[YQ,ID];omega
  ·have ae:¬((k:Int)+(5-k:Nat)<5):=by omega
   simp[YR,IE,ae];rw[hF]
def ZI (c:Case)(k at_ n:Int):Case:={c with file:=qD c.file (fx k at_ n)}
def uC (c:Case)(k:Int):Int:=if k=3∨k=4 then max 0 c.holder else c.sign
theorem al8 (c:Case)(k:Int):aw T 61 [cD c,.int k] (.int (uC c k)):=by
 refine .of_tree rfl (lA 50 (by kernel_rfl)) amA ?_;unfold uC;by_cases h1:k=3<;>by_cases h2:k=4<;>simp[P9,h1,h2]
 all_goals
  split
  ·rw[Int.max_eq_right (by omega)]
  ·rw[Int.max_eq_left (by omega)]
def pU (n:Nat)(v:Int)(i:Nat):Int:=cU .and .i64 (cU .shr .i64 v ((n:Int)-1-i)) 1
def jK (c:Case)(l:List Int)(v:Int):Nat→Case
 |0=>c
 |i+1=>ZI (jK c l v i) (l.getD i 0) (uC c (l.getD i 0)) (pU l.length v i)
def nX (c:Case)(l:List Int)(v:Int):Case:=jK c l v l.length
theorem aoo {l:List Fact}(h:l.Pairwise ct)(x:Fact):(pG l x).Pairwise ct:=by
 unfold pG;rw[jq,Sf];refine⟨h.filter _,?_,fun a ha b hb=>?_⟩
 ·rw[List.singleton_append,Sg];exact⟨fun b hb=>(s9 x b).1 (ed.1 hb).2,h.filter _⟩
 ·have h1:=(CY x a).1 (ed.1 ha).2;rcases de.1 hb with hb|hb
  ·rw[na.1 hb];exact h1
  ·exact J1 h1 ((s9 x b).1 (ed.1 hb).2)
structure SortF (f:File) (n:Nat):Prop where
 sorted:f.facts.Pairwise ct
 len:f.facts.length≤n
theorem SortF.set {f:File}{n:Nat}(h:SortF f n)(x:Fact):SortF (qD f x) (n+1):=
 ⟨aoo h.sorted x,cC (aon f.facts x) (Nat.succ_le_succ h.len)⟩
theorem I6 {c:Case}{n:Nat}(h:SortF c.file n)(l:List Int)(v:Int):∀i,SortF (jK c l v i).file (n+i)
 |0=>h
 |i+1=>(I6 h l v i).set _
theorem I5 (c:Case)(l:List Int)(v:Int):∀i,(jK c l v i).sign=c.sign∧(jK c l v i).holder=c.holder∧(jK c l v i).defence=c.defence∧(jK c l v i).due=c.due∧(jK c l v i).day=c.day∧
 (jK c l v i).file.bill=c.file.bill∧(jK c l v i).file.signs=c.file.signs∧(jK c l v i).file.alters=c.file.alters∧(jK c l v i).file.acts=c.file.acts
 |0=>⟨rfl,rfl,rfl,rfl,rfl,rfl,rfl,rfl,rfl⟩
 |i+1=>I5 c l v i
theorem alU (c:Case)(l:List Int)(v:Int)(hl:l.length≤60)(hs:SortF c.file 1000):aw T 28 [cD c,ints l,.int v] (cD (nX c l v)):=by
 refine .of_tree rfl (lA 49 (by kernel_rfl)) amz ?_;simp[P8];refine aS.forRounds l.length (fun i=>[.int i]) (fun i=>[cD (jK c l v i)]) ?_ (fun i hi=>?_) ?_
 ·simp[jK]
 ·have hw:=bS hi (by omega);have fA:IntKind.i64.wrap ((l.length:Int)-1)=(l.length:Int)-1:=cm (by omega);have fB:IntKind.i64.wrap ((l.length:Int)-1-i)=(l.length:Int)-1-i:=cm (by omega);have nH:=ZN (I6 hs l v i).sorted (cC (I6 hs l v i).len (by omega)) (l.getD i 0) (uC c (l.getD i 0)) (pU l.length v i);have bI:=al8 (jK c l v i) (l.getD i 0);have hsc:uC (jK c l v i) (l.getD i 0)=uC c (l.getD i 0):=by unfold uC;rw[(I5 c l v i).1,(I5 c l v i).2.1]
  rw[hsc] at bI;have hg:l.getD i 0=l[i]:=by simp[hi]
  have hN:jK c l v (i+1)=ZI (jK c l v i) l[i] (uC c l[i]) (pU l.length v i):=by rw[←hg];rfl
  rw[hg] at nH bI;simp[YS,IF,hi,hw,fA,fB];refine⟨_,bI,by omega,_,nH,?_⟩;rw[hN];rfl
 ·simp[YS,IF];rfl
def Ek:List (List Int×Int):=(List.range 5).flatMap fun s=>(gn (s+1) 0).flatMap fun l=>(List.range (2^(s+1))).map fun(v:Nat)=>(l,(v:Int))
def iS (r:Realm)(a b q:Int)(c:Case)(x:List Int×Int):Bool:=decide (lO r a b q (nX c x.1 x.2)≠2)&&decide (lO r a b q (nX c x.1 x.2)≠lO r a b q c)
def Aj (x:List Int×Int):List Int:=(List.range x.1.length).map fun i=>pU x.1.length x.2 i
def E0 (c:Case):Bool:=decide (0≤c.sign∧c.sign<c.file.signs.length∧-1≤c.holder∧c.holder<c.file.signs.length)
def pC (r:Realm)(a b q:Int)(c:Case):List Int×List Int×Bool:=
 if E0 c=true then match Ek.find? (iS r a b q c) with|some x=>(x.1,Aj x,true)|none=>([],[],false) else([],[],false)
def ym (x:List Int×List Int×Bool):D:=.tup [ints x.1,ints x.2.1,.bool x.2.2]
theorem K8 {α β:Type}{f:α→List β}{p:β→Bool}{l:List α}:(l.flatMap f).find? p=none↔∀a∈l,(f a).find? p=none:=by
 simp only[sA,iL];constructor
 ·intro h a ha b hb;exact h b ⟨a,ha,hb⟩
 ·rintro h b ⟨a,ha,hb⟩;exact h a ha b hb
theorem TI {α β:Type}{f:α→List β}{p:β→Bool}{l:List α}{k:Nat}(hk:k<l.length)(h1:∀j (hj:j<k),(f (l[j]'(by omega))).find? p=none){x:β}(h2:(f l[k]).find? p=some x):(l.flatMap f).find? p=some x:=by
 have e:l=l.take k++(l[k]::l.drop (k+1)):=by rw[←R3 hk,sG]
 rw[e,R8,R7,K8.2,Option.none_or,qO,R7,h2]
 ·rfl
 ·intro a ha;obtain⟨j,hj,rfl⟩:=gy ha;have bp:j<k:=by rw[db] at hj;omega
  rw[Sb];exact h1 j bp
def xk (s:Nat)(l:List Int):List (List Int×Int):=(List.range (2^(s+1))).map fun(v:Nat)=>(l,(v:Int))
theorem aof (s:Nat)(l:List Int)(v:Int)(hl:l.length=s+1)(hs:s<5)(ρ:Env)(kU:ρ.r 15=.int (s+1))(p9:ρ.r 18=.int v)(T9:ρ.r 84=.int l.length)(h85:ρ.r 85=.int 0)(kT:ρ.r 11=.none)(tS:ρ.o 11=.list [])
 {Q:Out→Prop} (hn:∀ρ',ρ'.r 17=ρ.r 17→ρ'.o 11=ints (Aj (l,v))→Q (.next ρ')):aS T (Wg nj) ρ Q:=by
 have fA:IntKind.i64.wrap ((s:Int)+1-1)=s:=by rw[cm (by omega)];omega
 refine aS.forRounds l.length (fun i=>[.none,.int i]) (fun i=>[ints ((List.range i).map fun i=>pU l.length v i)]) ?_ (fun i hi=>?_) ?_
 ·simp[kT,h85,tS];rfl
 ·have hw:=bS hi (by omega);have fB:IntKind.i64.wrap ((s:Int)-i)=s-i:=cm (by omega);have hb:pU l.length v i=cU .and .i64 (cU .shr .i64 v ((s:Int)-i)) 1:=by unfold pU;rw[hl];congr 3;omega
  have hR:(List.range (i+1)).map (fun i=>pU l.length v i)=(List.range i).map (fun i=>pU l.length v i)++[pU l.length v i]:=by rw[Si,m9];rfl
  have lV:IntKind.i64.wrap (s:Int)=s:=cm (by omega);simp[YP,IC,kU,p9,T9,hi,hw,fA,lV,fB];rw[hR,hb];refine⟨by omega,by omega,?_⟩;simp[ints]
 ·simp[YP,IC,T9];refine hn _ ?_ ?_
  ·simp
  ·simp;rfl
theorem SP (r:Realm)(hr:Right r)(a b q:Int)(c:Case)(oF:SortF c.file 900)(vD:∀l v,l.length≤60→FewS (nX c l v).file)(s:Nat)(l:List Int)(hl:l.length=s+1)(hs:s<5)(ρ:Env)
 (h1:ρ.r 1=.int a) (h2:ρ.r 2=.int b) (h3:ρ.r 3=.int q) (kq:ρ.r 10=.list []) (kT:ρ.r 11=.none) (vu:ρ.r 12=.bool false) (rl:ρ.r 14=.int (lO r a b q c)) (kU:ρ.r 15=.int (s+1)) (rn:ρ.r 17=ints l)
 (Ls:ρ.r 63=.int ((2^(s+1):Nat):Int)) (Lt:ρ.r 64=.int 0) (o5:ρ.o 5=bF r) (o9:ρ.o 9=cD c) (tS:ρ.o 11=.list []) {Q:Out→Prop}
 (hn:(xk s l).find? (iS r a b q c)=none→∀ρ',ρ'.r 10=.list []→ρ'.r 11=.none→ρ'.r 12=.bool false→ρ'.o 11=.list []→Q (.next ρ'))
 (hy:∀x,(xk s l).find? (iS r a b q c)=some x→Q (.ret (ym (x.1,Aj x,true)))):aS T (Wh nj) ρ Q:=by
 have hp:2^(s+1)≤32:=cC (Sl (by omega) (show s+1≤5 by omega)) (by decide);generalize hN:2^(s+1)=N at*;have jA:xk s l=(List.range N).map fun(v:Nat)=>(l,(v:Int)):=by unfold xk;rw[hN]
 rw[jA] at hn hy;have UD:∀v:Nat,aw T 13 [bF r,.int a,.int b,.int q,cD (nX c l v)] (.int (lO r a b q (nX c l v))):=fun v=>Ex r hr a b q _ (vD l v (by omega));have Vn:∀v:Nat,aw T 28 [cD c,ints l,.int v] (cD (nX c l v)):=fun v=>alU c l v (by omega) ⟨oF.sorted,cC oF.len (by omega)⟩;refine aS.scan N (fun v=>iS r a b q c (l,(v:Int))=false) (fun v=>[.list [],.none,.bool false,.int v]) (fun _=>[.list []]) ?_ (fun v hv hj ho=>?_) (fun v hv hj ho=>?_) (fun hj=>?_)
 ·simp[kq,kT,vu,Lt,tS]
 ·have hw:=bS hv (by omega);simp[OT,Dr,h1,h2,h3,rl,kU,rn,Ls,o5,o9,hv,hw];refine⟨_,Vn v,_,UD v,?_⟩;intro u1 u2;have e:iS r a b q c (l,(v:Int))=true:=by
   unfold iS;rw[aj,decide_eq_true_eq,decide_eq_true_eq];exact⟨u1,u2⟩
  rw[e] at ho;cases ho
 ·have hw:=bS hv (by omega);have dJ:iS r a b q c (l,(v:Int))=true:=by simpa using ho
  have gP:=dJ;unfold iS at gP;rw[aj,decide_eq_true_eq,decide_eq_true_eq] at gP;simp[OT,Dr,h1,h2,h3,rl,kU,rn,Ls,o5,o9,hv,hw];refine⟨_,Vn v,_,UD v,?_⟩;refine⟨gP,aof s l v hl hs _ ?_ ?_ ?_ ?_ ?_ ?_ fun ρ' e1 e2=>?_⟩
  ·simp[kU]
  ·simp
  ·simp[rn]
  ·simp
  ·simp
  ·simp
  ·show Q _;rw[e1,e2];simp[rn];refine hy (l,(v:Int)) ?_;have hk:v<((List.range N).map fun(v:Nat)=>(l,(v:Int))).length:=by simpa using hv
   have:=Bq (p:=iS r a b q c) hk (by simpa using dJ) (fun j bp=>by simpa using hj j bp);simpa using this
 ·simp[OT,Dr,Ls];refine hn ?_ _ ?_ ?_ ?_ ?_
  ·rw[sA];intro x hx;obtain⟨v,hv,rfl⟩:=eE.1 hx;rw[hj v (bZ.1 hv)];decide
  all_goals simp
def v9 (s:Nat):List (List Int×Int):=(gn (s+1) 0).flatMap (xk s)
theorem V3 (r:Realm)(hr:Right r)(a b q:Int)(c:Case)(oF:SortF c.file 900)(vD:∀l v,l.length≤60→FewS (nX c l v).file)(s:Nat)(hs:s<5)(ρ:Env)
 (h1:ρ.r 1=.int a) (h2:ρ.r 2=.int b) (h3:ρ.r 3=.int q) (kq:ρ.r 10=.list []) (kT:ρ.r 11=.none) (vu:ρ.r 12=.bool false) (rl:ρ.r 14=.int (lO r a b q c)) (kU:ρ.r 15=.int (s+1)) (Gs:ρ.r 56=.list ((gn (s+1) 0).map ints))
 (BE:ρ.r 57=.int (gn (s+1) 0).length) (h58:ρ.r 58=.int 0) (o5:ρ.o 5=bF r) (o9:ρ.o 9=cD c) (tS:ρ.o 11=.list []) {Q:Out→Prop}
 (hn:(v9 s).find? (iS r a b q c)=none→∀ρ',ρ'.r 10=.list []→ρ'.r 11=.none→ρ'.r 12=.bool false→ρ'.o 11=.list []→Q (.next ρ'))
 (hy:∀x,(v9 s).find? (iS r a b q c)=some x→Q (.ret (ym (x.1,Aj x,true)))):aS T (Wi nj) ρ Q:=by
 have G2:=Hz (s+1) 0;have hle:=Hy (s+1) 0;have h5:5^(s+1)≤3125:=cC (Sl (by omega) (show s+1≤5 by omega)) (by decide);unfold v9 at hn hy;generalize gn (s+1) 0=X at*;have eu:cU .shl .i64 1 ((s:Int)+1)=((2^(s+1):Nat):Int):=by
  have:s=0∨s=1∨s=2∨s=3∨s=4:=by omega
  rcases this with rfl|rfl|rfl|rfl|rfl<;>rfl
 refine aS.scan X.length (fun k=>(xk s (X.getD k [])).find? (iS r a b q c)=none) (fun k=>[.list [],.none,.bool false,.int k]) (fun _=>[.list []]) ?_ (fun k hk hj ho=>?_) (fun k hk hj ho=>?_) (fun hj=>?_)
 ·simp[kq,kT,vu,h58,tS]
 ·have hw:=bS hk (by omega);have hg:X.getD k []=X[k]:=by simp[hk]
  rw[hg] at ho;have Cs:(0:Int)≤(s:Int)+1:=by omega
  simp[OU,Ds,h1,h2,h3,rl,kU,Gs,BE,o5,o9,hk,hw,eu,Cs];refine SP r hr a b q c oF vD s X[k] (hle _ (ec hk)) hs _ ?_ ?_ ?_ ?_ ?_ ?_ ?_ ?_ ?_ ?_ ?_ ?_ ?_ ?_ (fun _ ρ' e1 e2 e3 e4=>?_) (fun x hx=>?_)
  case refine_15=>simp[e1,e2,e3,e4,hw]
  case refine_16=>rw[ho] at hx;cases hx
  all_goals simp[h1,h2,h3,rl,kU,Gs,BE,o5,o9,hk,eu]
 ·have hw:=bS hk (by omega);have hg:X.getD k []=X[k]:=by simp[hk]
  rw[hg] at ho;have Cs:(0:Int)≤(s:Int)+1:=by omega
  simp[OU,Ds,h1,h2,h3,rl,kU,Gs,BE,o5,o9,hk,hw,eu,Cs];refine SP r hr a b q c oF vD s X[k] (hle _ (ec hk)) hs _ ?_ ?_ ?_ ?_ ?_ ?_ ?_ ?_ ?_ ?_ ?_ ?_ ?_ ?_ (fun hx ρ' e1 e2 e3 e4=>absurd hx ho) (fun x hx=>?_)
  case refine_15=>
   show Q _;exact hy x (TI hk (fun j bp=>by have:=hj j bp;simpa [show j<X.length by omega] using this) hx)
  all_goals simp[h1,h2,h3,rl,kU,Gs,BE,o5,o9,hk,eu]
 ·simp[OU,Ds,BE];refine hn (K8.2 fun l hl=>?_) _ ?_ ?_ ?_ ?_
  ·obtain⟨j,bp,rfl⟩:=gy hl;have:=hj j bp;simpa [bp] using this
  all_goals simp
theorem Ss (r:Realm)(hr:Right r)(a b q:Int)(c:Case)(hf:FewS c.file)(hl:c.file.facts.length≤900)(hs:c.file.facts.Pairwise ct):aw T 10 [bF r,.int a,.int b,.int q,cD c] (ym (pC r a b q c)):=by
 have MN:SortF c.file 900:=⟨hs,hl⟩
 have vD:∀l v,l.length≤60→FewS (nX c l v).file:=fun l v hl=>by
  have h:=I5 c l v l.length;exact⟨by rw[show(nX c l v).file.signs=_ from h.2.2.2.2.2.2.1];exact hf.1,by rw[show(nX c l v).file.alters=_ from h.2.2.2.2.2.2.2.1];exact hf.2,by rw[show(nX c l v).file.acts=_ from h.2.2.2.2.2.2.2.2];exact hf.3,cC (I6 MN l v l.length).len (by omega)⟩
 refine .of_tree rfl (lA 4 (by kernel_rfl)) amy ?_;unfold pC;by_cases hc:E0 c=true
 case neg=>
  rw[if_neg hc];simp[E0] at hc;simp[Jl];rw[if_pos (by omega)];rfl
 rw[if_pos hc];simp[E0] at hc;simp[Jl];rw[if_neg (by omega)];refine⟨_,Ex r hr a b q c hf,?_⟩;have hT:Ek=(List.range 5).flatMap v9:=rfl;rw[hT];generalize hF:((List.range 5).flatMap v9).find? (iS r a b q c)=F;refine aS.scan 5 (fun s=>(v9 s).find? (iS r a b q c)=none) (fun s=>[.list [],.none,.bool false,.int ((s:Int)+1)]) (fun _=>[.list []]) ?_ (fun s hs hj ho=>?_) (fun s hs hj ho=>?_) (fun hj=>?_)
 ·simp
 ·have hw:IntKind.i64.wrap ((s:Int)+1+1)=(s:Int)+1+1:=cm (by omega);have ae:(s:Int)+1≤5:=by omega
  have hL:=Nn (s+1) (by omega) 0 (by omega);simp[OV,Dt,ae,hw];refine⟨_,hL,?_⟩;refine V3 r hr a b q c MN vD s hs _ ?_ ?_ ?_ ?_ ?_ ?_ ?_ ?_ ?_ ?_ ?_ ?_ ?_ ?_ (fun _ ρ' e1 e2 e3 e4=>?_) (fun x hx=>?_)
  case refine_15=>simp[e1,e2,e3,e4,hw]
  case refine_16=>rw[ho] at hx;cases hx
  all_goals simp
 ·have hw:IntKind.i64.wrap ((s:Int)+1+1)=(s:Int)+1+1:=cm (by omega);have ae:(s:Int)+1≤5:=by omega
  have hL:=Nn (s+1) (by omega) 0 (by omega);simp[OV,Dt,ae,hw];refine⟨_,hL,?_⟩;refine V3 r hr a b q c MN vD s hs _ ?_ ?_ ?_ ?_ ?_ ?_ ?_ ?_ ?_ ?_ ?_ ?_ ?_ ?_ (fun hx ρ' e1 e2 e3 e4=>absurd hx ho) (fun x hx=>?_)
  case refine_15=>
   have:=TI (f:=v9) (l:=List.range 5) (p:=iS r a b q c) (k:=s) (by simpa using hs) (fun j bp=>by simpa using hj j bp) (by simpa using hx);rw[this] at hF;subst hF;rfl
  all_goals simp
 ·simp[OV,Dt];rw[K8.2 fun s hs=>hj s (bZ.1 hs)] at hF;subst hF;rfl
end Rm
