/-
  Shared texts of this claim.
-/
import Derived.Test.YtefchokhgdmamaaGreatDoorUAP
set_option linter.unusedSimpArgs false
set_option linter.unusedVariables false
namespace Rm
open Go Go.Proofs Cx
theorem abw (b:Bool):av T 126 [.bool b] (dk (eB b)):=by
 refine .of_tree rfl (lA 17 (by kernel_rfl)) aqz ?_;cases b<;>simp[SL,eB]<;>rfl
def eG (kind sign:Int)(x:Fact):Bool:=decide (x.kind=kind)&&decide (x.at_=sign)
def bF (f:File)(kind sign:Int):Cell:=match f.facts.find? (eG kind sign) with|none=>eP|some x=>eB (decide (x.n≠0))
theorem Cg {α:Type}{p:α→Bool}:∀{l:List α} {k:Nat} (hk:k<l.length),p l[k]=true→(∀j (hj:j<k),p (l[j]'(by omega))=false)→l.find? p=some l[k]
 |a::l,0,hk,h,hj=>by simp at h;simp[h]
 |a::l,k+1,hk,h,hj=>by
  have h0:=hj 0 (by omega);simp at h0;simp only[KV,h0,List.getElem_cons_succ];exact Cg (by simpa using hk) (by simpa using h) (fun j bA=>by simpa using hj (j+1) (by omega))
theorem Mz {α:Type}{p:α→Bool}{l:List α}(h:∀j (hj:j<l.length),p l[j]=false):l.find? p=none:=by
 rw[nZ];intro x hx;obtain⟨j,hj,rfl⟩:=gZ hx;rw[h j hj];decide
theorem E3 (f:File)(kind sign:Int)(hl:f.facts.length≤4294967296):av T 127 [dv f,.int kind,.int sign] (dk (bF f kind sign)):=by
 refine .of_tree rfl (lA 18 (by kernel_rfl)) aqw ?_;simp[SJ];refine .scan f.facts.length (fun k=>eG kind sign (f.facts.getD k default)=false) (fun k=>[.int k]) (fun _=>[dk eP]) ?_ (fun k hk hj ho=>?_) (fun k hk hj ho=>?_) (fun hj=>?_)
 ·simp
 ·have hw:=bJ hk hl;simp[hk,eG] at ho;by_cases h1:f.facts[k].kind=kind<;>by_cases h2:f.facts[k].at_=sign
  ·exact absurd h2 (ho h1)
  all_goals simp[QV,ER,hk,hw,h1,h2]
 ·have hw:=bJ hk hl;have hf:bF f kind sign=eB (decide (f.facts[k].n≠0)):=by
   unfold bF;rw[Cg hk (by simpa [hk] using ho) (fun j bA=>by have:=hj j bA;simpa [show j<f.facts.length by omega] using this)]
  simp[hk,eG] at ho;simp[QV,ER,hk,hw,ho,hf];refine⟨_,abw _,?_⟩;simp
  try rfl
 ·have hf:bF f kind sign=eP:=by
   unfold bF;rw[Mz (fun j bA=>by have:=hj j bA;simpa [bA] using this)]
  simp[QV,ER,hf]
  try rfl
def mY (r:Realm)(c:Int):Int:=if aD c r.cities.length=true then(r.cities.getD c.toNat default).order else-1
theorem rG (r:Realm)(c:Int):av T 106 [bK r,.int c] (.int (mY r c)):=by
 refine .of_tree rfl (lA 15 (by kernel_rfl)) aqj ?_;simp[Su,mY];refine⟨_,gl c r.cities.length,?_⟩;cases h:aD c r.cities.length
 ·simp[h]
 ·simp[aD] at h;have h1:c.toNat<r.cities.length:=by omega
  simp[h,h1]
def kh (day:Int)(l:List Sign):List Sign:=l.takeWhile fun s=>decide (s.day≤day)
def upA (day:Int)(l:List Act):List Act:=l.takeWhile fun s=>decide (s.day≤day)
def qO (n:Nat)(a:Alter):Bool:=decide (a.at_≤(n:Int))
def ku (n:Nat)(x:Fact):Bool:=aD x.at_ n
def fZ (f:File)(day:Int):File:=
 ⟨f.bill,kh day f.signs,f.alters.filter (qO (kh day f.signs).length),upA day f.acts,f.facts.filter (ku (kh day f.signs).length)⟩
theorem KF {α:Type}(p:α→Bool):∀(l:List α),∃m,m≤l.length∧l.takeWhile p=l.take m∧(∀k (hk:k<l.length),k<m→p l[k]=true)∧(∀hk:m<l.length,p l[m]=false)
 |[]=>⟨0,by simp,by simp,fun k hk=>by simp at hk,fun hk=>by simp at hk⟩
 |a::l=>by
  by_cases h:p a=true
  ·obtain⟨m,h1,h2,h3,h4⟩:=KF p l;refine⟨m+1,by simp;omega,by simp[h,h2],fun k hk hm=>?_,fun hk=>?_⟩
   ·cases k with
    |zero=>simpa using h
    |succ k=>simpa using h3 k (by simpa using hk) (by omega)
   ·simpa using h4 (by simpa using hk)
  ·refine⟨0,by simp,by simp[h],fun k hk hm=>by omega,fun hk=>by simpa using h⟩
theorem aca {α:Type}(p:α→Bool)(l:List α){k:Nat}(hk:k<l.length):(l.take (k+1)).filter p=(l.take k).filter p++if p l[k] then[l[k]] else[]:=by
 rw[se hk,FH]
 congr 1
 cases h:p l[k]<;>simp[h]
def Bo (b:Bill)(w x y z:D):D:=.agg [.int b.drawer,.int b.drawee,.int b.payee,.int b.sum,.int b.currency,.int b.tenor.kind,.int b.tenor.n,.int b.tenor.unit,.int b.day,.int b.city,.int b.pay,.int b.need,.int b.rate,.int b.flags,.int b.parts,w,x,y,z]
def oE {α:Type}(l:List α):D:=match l with|[]=>.list []|_=>.none
@[simp] theorem awi {α:Type}:oE ([]:List α)=.list []:=rfl
@[simp] theorem awh {α:Type}(l:List α)(x:α):oE (l++[x])=.none:=by cases l<;>rfl
theorem aom (f:File)(day:Int)(h1:f.signs.length≤4294967295)(h2:f.acts.length≤4294967295)(h3:f.alters.length≤4294967295)(h4:f.facts.length≤4294967295):av T 103 [dv f,.int day] (dv (fZ f day)):=by
 refine .of_tree rfl (lA 9 (by kernel_rfl)) aqv ?_;simp[SI];obtain⟨m,hm,hS,Wo,zt⟩:=KF (fun s:Sign=>decide (s.day≤day)) f.signs;obtain⟨n,hn,hA,hA1,hA2⟩:=KF (fun s:Act=>decide (s.day≤day)) f.acts;refine aU.forRounds m (fun k=>[.int k]) (fun k=>[signs (f.signs.take k),Bo f.bill (oE (f.signs.take k)) (.list []) (.list []) (.list [])]) ?_ (fun k hk=>?_) ?_
 ·simp[Bo,signs]
  try rfl
 ·have cj:k<f.signs.length:=by omega
  have hw:=bJ cj (by omega);have hd:=Wo k cj hk;simp at hd;have ia:¬day<f.signs[k].day:=by omega
  have hle:(k:Int)+1≤4294967296:=by omega
  have ht:=se cj;rw[ht];have hlen:(f.signs.take k).length=k:=by simp;omega
  generalize f.signs.take k=A at*;simp[QR,EM,cj,hw,ia,hlen];exact⟨hle,by simp[signs],rfl⟩
 have hSl:(f.signs.take m).length≤4294967295:=by rw[du];omega
 have hAt:fZ f day=⟨f.bill,f.signs.take m,f.alters.filter (qO (f.signs.take m).length),f.acts.take n,f.facts.filter (ku (f.signs.take m).length)⟩:=by
  unfold fZ kh upA;rw[hS,hA]
 rw[hAt];generalize f.signs.take m=S at*;have zq:(f.acts.take n).length≤4294967295:=by rw[du];omega
 by_cases fQ:m<f.signs.length
 case' pos=>
  have hd:=zt fQ;simp at hd;simp[QR,EM,fQ,hd];generalize D.bool true=bb
 case' neg=>
  have C1:m=f.signs.length:=by omega
  simp[QR,EM,fQ,C1];generalize D.bool false=bb
 all_goals
  refine aU.forRounds n (fun k=>[.int k]) (fun k=>[acts (f.acts.take k),Bo f.bill (oE S) (.list []) (oE (f.acts.take k)) (.list [])]) ?_ (fun k hk=>?_) ?_
  ·simp[acts]
  ·have cj:k<f.acts.length:=by omega
   have hw:=bJ cj (by omega);have hd:=hA1 k cj hk;simp at hd;have ia:¬day<f.acts[k].day:=by omega
   have hle:(k:Int)+1≤4294967296:=by omega
   have ht:=se cj;rw[ht];have hlen:(f.acts.take k).length=k:=by simp;omega
   generalize f.acts.take k=A at*;simp[QS,EN,cj,hw,ia,hlen];exact⟨hle,by simp[acts],rfl⟩
  generalize f.acts.take n=A at*;by_cases jI:n<f.acts.length
  case' pos=>
   have hd:=hA2 jI;simp at hd;simp[QS,EN,jI,hd];generalize D.bool true=bc
  case' neg=>
   have p8:n=f.acts.length:=by omega
   simp[QS,EN,jI,p8];generalize D.bool false=bc
  all_goals
   refine aU.forRounds f.alters.length (fun k=>[.int k]) (fun k=>[Bo f.bill (oE S) (oE ((f.alters.take k).filter (qO S.length))) (oE A) (.list []),alters ((f.alters.take k).filter (qO S.length))]) ?_ (fun k hk=>?_) ?_
   ·simp[alters]
   ·have hw:=bJ hk (by omega);have ht:=aca (qO S.length) f.alters hk;rw[ht];have hlen:((f.alters.take k).filter (qO S.length)).length≤k:=cL (KY _ _) (by simp;omega);generalize (f.alters.take k).filter (qO S.length)=B at*;by_cases hd:f.alters[k].at_≤(S.length:Int)
    ·simp[QT,EO,qO,hk,hw,hd];exact⟨by omega,rfl,by simp[alters]⟩
    ·simp[QT,EO,qO,hk,hw,hd]
   simp[QT,EO];generalize f.alters.filter (qO S.length)=B at*;refine aU.forRounds f.facts.length (fun k=>[.int k]) (fun k=>[Bo f.bill (oE S) (oE B) (oE A) (oE ((f.facts.take k).filter (ku S.length))),facts ((f.facts.take k).filter (ku S.length))]) ?_ (fun k hk=>?_) ?_
   ·simp[facts]
   ·have hw:=bJ hk (by omega);have ht:=aca (ku S.length) f.facts hk;rw[ht];have hlen:((f.facts.take k).filter (ku S.length)).length≤k:=cL (KY _ _) (by simp;omega);generalize (f.facts.take k).filter (ku S.length)=C at*;cases hd:aD f.facts[k].at_ S.length
    ·simp[QU,EP,ku,hk,hw,hd];refine⟨_,qy _ _,?_⟩;simp[hd,hw]
    ·simp[QU,EP,ku,hk,hw,hd];refine⟨_,qy _ _,?_⟩;simp[hd,hw];exact⟨by omega,rfl,by simp[facts]⟩
   simp[QU,EP];rfl
end Rm
namespace Rm
open Go Go.Proofs Cx
end Rm
namespace Rm
open Go Go.Proofs Cx
def iK (g:Nat→Cell):D:=.list ((List.range 20).map fun i=>dk (g i))
theorem U1 {g g':Nat→Cell}(h:∀i,i<20→g i=g' i):iK g=iK g':=by
 unfold iK
 congr 1
 exact yc fun i hi=>by rw[h i (by simpa using hi)]
theorem U2 (g:Nat→Cell)(k:Nat)(c:Cell):D.list ((iK g).l.set k (dk c))=iK (fun i=>if i=k then c else g i):=by
 unfold iK
 congr 1
 show((List.range 20).map fun i=>dk (g i)).set k (dk c)=_;apply T4
 ·simp
 ·intro i h1 h2;simp at h2;rw[List.getElem_set];by_cases h:k=i
  ·simp[h]
  ·have h':¬i=k:=fun e=>h e.symm;simp[h,h']
@[simp] theorem aum (g:Nat→Cell):(iK g).l.length=20:=by
  show((List.range 20).map fun i=>dk (g i)).length=20;simp
theorem F9 (g:Nat→Cell){k:Nat}(hk:k<20):(iK g).l[k]?.getD D.none=dk (g k):=by
 show((List.range 20).map fun i=>dk (g i))[k]?.getD D.none=dk (g k);simp[hk]
theorem ad3 (g:Nat→Cell){k:Nat}(hk:k<(iK g).l.length):(iK g).l[k]=dk (g k):=by
 have h:=F9 g (k:=k) (by simpa using hk);rw[bu hk] at h;exact h
theorem ad5 (g:Nat→Cell)(k:Nat)(c:Cell):(iK g).l.set k (dk c)=(iK (fun i=>if i=k then c else g i)).l:=congrArg D.l (U2 g k c)
theorem ad4 (g:Nat→Cell):D.list (iK g).l=iK g:=rfl
@[simp] theorem axI (x:Cell)(b:Bool)(n:Int):vu (dk x) 0 (D.agg [D.bool b,D.int n])=dk ⟨b,n⟩:=_root_.id rfl
def zh {α:Type}(l:List (Int×α))(val:α→Cell)(g0:Nat→Cell)(i:Nat):Cell:=match l.find? (fun p=>decide (p.1=(i:Int))) with|some p=>val p.2|none=>g0 i
def rA {α:Type}(enc:α→D)(p:Int×α):D:=.tup [.int p.1,enc p.2]
theorem Yx {α:Type}{J o:Nat}{ps dt:List Nat}{a:PC}{ρ:Env}{Q:Out→Prop}(l:List (Int×α))(enc:α→D)(val:α→Cell)(g0:Nat→Cell)
 (nd:∀p q,p∈l→q∈l→p.1=q.1→p=q) (Rg:∀p,p∈l→0≤p.1) (he:ρ.o J=.tup [.list [],.map (l.map fun p=>(.int p.1,enc p.2))]) (h0:ρ.o o=iK g0)
 (step:∀p,p∈l→∀g done,aG T (tC [o] a) ((ρ.put ps (dt.map (rA enc p).tget) [o] [iK g]).setO J (.tup [.list (done++[rA enc p]),.map (l.map fun p=>(.int p.1,enc p.2))])) (fun y=>∃ρ',y=.next ρ'∧ρ'.o o=.list ((iK g).l.set p.1.toNat (dk (val p.2)))))
 (last:Q (.next (ρ.put [] [] [o] [iK (zh l val g0)]))):aU T (.meach J ps dt [o] a) ρ Q:=by
 have nE:iW (.map (l.map fun p=>((D.int p.1,enc p.2):D×D)))=l.map (rA enc):=by
  simp[iW,rA]
 refine .meachR _ he (fun done vo=>∃g:Nat→Cell,vo=[iK g]∧(∀p,p∈l→rA enc p∈done→g p.1.toNat=val p.2)∧∀i:Nat,(∀p,p∈l→rA enc p∈done→p.1≠i)→g i=g0 i) ⟨g0,by simp[h0],(fun p _ h=>by cases h),fun i _=>rfl⟩ (fun done x rest vo hp ⟨g,hv,pV,db⟩=>?_) ⟨_,fun done hp vo ⟨g,hv,pV,db⟩=>?_,last⟩
 ·subst hv;rw[nE] at hp;have hx:x∈l.map (rA enc):=hp.subset (by simp);obtain⟨p,fF,rfl⟩:=ec.mp hx;refine yf _ (fun y ⟨ρ',e,ho⟩=>⟨ρ',e,fun i=>if i=p.1.toNat then val p.2 else g i,by simp[ho,U2],fun q hq N1=>?_,fun i hi=>?_⟩) (step p fF g done)
  ·have N2:=Rg q hq;have qd:=Rg p fF;by_cases h:q.1=p.1
   ·rw[nd q p hq fF h];simp
   ·show(if q.1.toNat=p.1.toNat then val p.2 else g q.1.toNat)=val q.2;rw[if_neg (by omega)];rcases cR.mp N1 with h1|h1
    ·exact pV q hq h1
    ·simp[rA] at h1;exact absurd h1.1 h
  ·have qd:=Rg p fF;have cw:=hi p fF (by simp);show(if i=p.1.toNat then val p.2 else g i)=g0 i;rw[if_neg (by omega)];exact db i fun q hq N1=>hi q hq (by simp[N1])
 ·rw[hv,nE] at*
  congr 1
  refine U1 fun i hi=>?_;unfold zh;cases hf:l.find? (fun p=>decide (p.1=(i:Int))) with
  |some p=>
   have fF:=qL hf;have Iu:p.1=(i:Int):=by simpa using x9 hf
   have:=pV p fF (hp.symm.subset (List.mem_map_of_mem fF));simp only;rw[←this,Iu];rfl
  |none=>
   refine db i fun p fF _=>?_;have:=nZ.mp hf p fF;simpa using this
@[simp] theorem awE (a b:Int):fa (D.int a) (D.int b)=decide (a=b):=by
  show((a==b)&&true)=decide (a=b);rw[Bool.and_true];by_cases h:a=b<;>simp[h]
def Cl (n k:Int):Bool:=decide (cT .and .i64 n k≠0)
def w7 (s:Sign)(due:Int):Int:=if due=-1 then 0 else s.day-due
def Ll (f:File)(sign:Int):Bool:=(List.range f.alters.length).any fun k=>decide ((f.alters.getD k default).at_≤sign)
def df (c:Case):Int:=if c.holder<0 then 0 else c.holder
def lJ (c:Case)(s:Sign):List (Int×Int):=[(0,c.file.bill.sum),(1,c.file.bill.parts),(2,c.file.bill.tenor.kind),(3,c.file.bill.rate),(4,s.kind),(5,c.defence),(6,w7 s c.due)]
def mm (r:Realm)(c:Case)(s:Sign):List (Int×Bool):=[(7,Cl c.file.bill.flags 1),(8,decide (c.file.bill.payee=-1)),(9,Cl c.file.bill.flags 4),(10,Cl c.file.bill.flags 2),(11,decide (mY r c.file.bill.city≠mY r c.file.bill.pay)),(12,Ll c.file c.sign),(13,Cl s.flags 1),(14,decide (0<w7 s c.due))]
def pI (r:Realm)(c:Case)(s:Sign):List Cell:=
 (lJ c s).map (fun p=>⟨true,p.2⟩)++(mm r c s).map (fun p=>eB p.2)++
    [bF c.file 0 c.sign,bF c.file 1 c.sign,bF c.file 2 c.sign,bF c.file 3 (df c),bF c.file 4 (df c)]
@[simp] theorem atY (x:Case):mB 19 (cg x)=dv x.file:=_root_.id rfl
@[simp] theorem atW (x:Case):mB 15 (cg x)=gp x.file.bill:=_root_.id rfl
@[simp] theorem atX (x:File):mB 15 (dv x)=gp x.bill:=_root_.id rfl
def kp (c:Case):Bool:=aD c.sign c.file.signs.length&&decide (-1≤c.holder)&&decide (df c<c.file.signs.length)&&(decide (c.due=-1)||aD c.due 100001)
def eA (r:Realm)(c:Case):List Cell:=if kp c=true∧aD (c.file.signs.getD c.sign.toNat default).day 100001=true then pI r c (c.file.signs.getD c.sign.toNat default) else[]
theorem aon (r:Realm)(c:Case)(h2:c.file.facts.length≤100000)(h3:c.file.alters.length≤100000):av T 104 [bK r,cg c] (cells (eA r c)):=by
 refine .of_tree rfl (lA 11 (by kernel_rfl)) aqy ?_;cases hs:aD c.sign c.file.signs.length
 ·have hv:eA r c=[]:=by unfold eA kp;rw[hs];simp
  rw[hv];simp[vz];refine⟨_,qy _ _,?_⟩;simp[hs];rfl
 by_cases hh:c.holder< -1
 ·have hv:eA r c=[]:=by unfold eA kp;rw[hs];simp;intros;omega
  rw[hv];simp[vz,hh];exact⟨⟨_,qy _ _⟩,rfl⟩
 by_cases hm:(c.file.signs.length:Int)≤df c
 ·have hv:eA r c=[]:=by unfold eA kp;rw[hs];simp;intros;omega
  rw[hv];unfold df at hm;simp[vz,hm];exact⟨⟨_,qy _ _⟩,rfl⟩
 by_cases hd:c.due≠-1∧aD c.due 100001=false
 ·have hv:eA r c=[]:=by unfold eA kp;rw[hs];simp[hd]
  rw[hv];unfold df at hm;obtain⟨bh,dM⟩:=hd;simp[vz,hh,hm,bh];refine⟨_,qy _ _,?_⟩;simp[hs,hh,hm,bh];refine⟨_,qy _ _,?_⟩;simp[hs,hh,hm,bh,dM];rfl
 have hcb:kp c=true:=by
  unfold kp;rw[hs];simp;refine⟨⟨by omega,by omega⟩,?_⟩;by_cases h:c.due=-1
  ·exact .inl h
  ·right;cases hb:aD c.due 100001
   ·exact absurd ⟨h,hb⟩ hd
   ·rfl
 have hlen:c.sign.toNat<c.file.signs.length:=by simp[aD] at hs;omega
 have eI:0≤c.sign∧c.sign<(c.file.signs.length:Int):=by simpa [aD] using hs
 obtain⟨s,Dr⟩:∃s:Sign,s=c.file.signs[c.sign.toNat]:=⟨_,rfl⟩
 have oJ:c.file.signs.getD c.sign.toNat default=s:=by rw[Dr];simp[hlen]
 have hv:eA r c=if aD s.day 100001=true then pI r c s else[]:=by
  unfold eA;rw[oJ,hcb];simp
 rw[hv];unfold df at hm;by_cases CM:c.due=-1
 case' pos=>
  have WE:(c.due=-1)=True:=eq_true CM;simp[vz,hh,hm,WE];refine⟨_,qy _ _,?_⟩;simp[hs,hh,hm,WE,hlen,←Dr,eI]
 case' neg=>
  have CJ:aD c.due 100001=true:=by
   cases hb:aD c.due 100001
   ·exact absurd ⟨CM,hb⟩ hd
   ·rfl
  simp[vz,hh,hm,CM];refine⟨_,qy _ _,?_⟩;simp[hs,hh,hm,CM];refine⟨_,qy _ _,?_⟩;simp[hs,hh,hm,CM,CJ,hlen,←Dr,eI]
 all_goals
  refine⟨_,qy _ _,?_⟩;cases HU:aD s.day 100001
  ·simp[HU];rfl
  simp[HU,lG];refine Yx (lJ c s) D.int (fun n=>⟨true,n⟩) (fun _=>eP) ?_ ?_ ?_ ?_ (fun p hp g done=>?_) ?_
  ·intro p q hp hq h;simp[lJ] at hp hq;rcases hp with rfl|rfl|rfl|rfl|rfl|rfl|rfl<;>rcases hq with rfl|rfl|rfl|rfl|rfl|rfl|rfl<;>first|rfl|(simp at h)
  ·intro p hp;simp[lJ] at hp;rcases hp with rfl|rfl|rfl|rfl|rfl|rfl|rfl<;>simp
  ·have Nn:(if c.due=-1 then(0:Int) else IntKind.i64.wrap (s.day-c.due))=w7 s c.due:=by
        unfold w7;by_cases h:c.due=-1
        ·simp[h]
        ·have CJ:aD c.due 100001=true:=by
          cases hb:aD c.due 100001
          ·exact absurd ⟨h,hb⟩ hd
          ·rfl
         simp[aD] at CJ HU;rw[if_neg h,if_neg h];exact cn (by omega)
   simp[lJ,lG,hlen,←Dr];rw[←Nn];by_cases h:c.due=-1<;>simp[h]
  ·simp[iK];rfl
  ·have hr:0≤p.1∧p.1<20:=by
        simp[lJ] at hp;rcases hp with rfl|rfl|rfl|rfl|rfl|rfl|rfl<;>simp
   have hk:p.1.toNat<20:=by omega
   simp[aoe,QW,rA,F9 g hk];exact hr
  have ajf:∀k (hk:k<c.file.alters.length),av T 125 (pE c.file.alters[k]::[.ref (cg c)]) (.bool (decide ((c.file.alters.getD k default).at_≤c.sign))):=fun k hk=>by
   refine .of_tree rfl (lA 12 (by kernel_rfl)) aqx ?_;simp[SK,hk]
  simp;refine⟨_,acI c.file.alters _ _ _ ajf (by omega),_,rG r _,_,rG r _,?_⟩;have Nn:(if c.due=-1 then(0:Int) else IntKind.i64.wrap (s.day-c.due))=w7 s c.due:=by
   unfold w7;by_cases h:c.due=-1
   ·simp[h]
   ·have CJ:aD c.due 100001=true:=by
     cases hb:aD c.due 100001
     ·exact absurd ⟨h,hb⟩ hd
     ·rfl
    simp[aD] at CJ HU;rw[if_neg h,if_neg h];exact cn (by omega)
  have Nm:cells (pI r c s)=iK (fun i=>if i=15 then bF c.file 0 c.sign else if i=16 then bF c.file 1 c.sign else if i=17 then bF c.file 2 c.sign else if i=18 then bF c.file 3 (df c) else if i=19 then bF c.file 4 (df c) else zh (mm r c s) eB (zh (lJ c s) (fun n=>⟨true,n⟩) (fun _=>eP)) i):=by
   rfl
  generalize zh (lJ c s) (fun n=>(⟨true,n⟩:Cell)) (fun _=>eP)=g1 at*;refine Yx (mm r c s) D.bool eB g1 ?_ ?_ ?_ ?_ (fun p hp g done=>?_) ?_
  ·intro p q hp hq h;simp[mm] at hp hq;rcases hp with rfl|rfl|rfl|rfl|rfl|rfl|rfl|rfl<;>rcases hq with rfl|rfl|rfl|rfl|rfl|rfl|rfl|rfl<;>first|rfl|(simp at h)
  ·intro p hp;simp[mm] at hp;rcases hp with rfl|rfl|rfl|rfl|rfl|rfl|rfl|rfl<;>simp
  ·simp[mm,lG,hlen,←Dr,Cl];rw[←Nn];by_cases h:c.due=-1<;>simp[h,Ll]
  ·simp
  ·have hr:0≤p.1∧p.1<20:=by
        simp[mm] at hp;rcases hp with rfl|rfl|rfl|rfl|rfl|rfl|rfl|rfl<;>simp
   have hk:p.1.toNat<20:=by omega
   simp[aof,QX,rA,F9 g hk];refine⟨_,abw _,?_⟩;simp[F9 g hk];exact hr
  simp;generalize zh (mm r c s) eB g1=g2 at*;have hho:(if c.holder<0 then D.int 0 else D.int c.holder)=D.int (df c):=by
   unfold df;split<;>rfl
  rw[hho];refine⟨_,E3 _ _ _ (by omega),_,E3 _ _ _ (by omega),_,E3 _ _ _ (by omega),_,E3 _ _ _ (by omega),_,E3 _ _ _ (by omega),?_⟩;rw[Nm];simp only[ad3,ao5,ad5,ad4];refine U1 fun i hi=>?_;by_cases lQ:i=15
  ·subst lQ;simp
  by_cases Hy:i=16
  ·subst Hy;simp
  by_cases sI:i=17
  ·subst sI;simp
  by_cases q7:i=18
  ·subst q7;simp
  by_cases Hz:i=19
  ·subst Hz;simp
  simp[lQ,Hy,sI,q7,Hz]
end Rm
namespace Rm
open Go Go.Proofs Cx
def Jn (n:Nat)(x:Int):Bool:=decide (x<0)||decide ((n:Int)≤x)
def mG (r:Realm)(a q:Int)(l:List Int):Bool:=
 !(decide (a<0)||decide ((r.orders.length:Int)≤a)||decide (q<0)||decide (22≤q)||decide (l.length≠5))&& !((List.range l.length).any fun k=>Jn r.orders.length (l.getD k 0))
theorem af8 (x n:Int):av T 130 [.int x,.ref (.int n)] (.bool (decide (x<0)||decide (n≤x))):=by
 refine .of_tree rfl (lA 24 (by kernel_rfl)) apH ?_;by_cases h:x<0<;>simp[RS,h]
theorem VK (r:Realm)(a q:Int)(l:List Int)(hl:l.length≤100000):av T 107 [bK r,.int a,.int q,ints l] (.bool (mG r a q l)):=by
 refine .of_tree rfl (lA 23 (by kernel_rfl)) apI ?_;by_cases h1:a<0
 ·simp[vy,mG,h1]
 by_cases h2:(r.orders.length:Int)≤a
 ·simp[vy,mG,h1,h2]
 by_cases h3:q<0
 ·simp[vy,mG,h1,h2,h3]
 by_cases h4:22≤q
 ·simp[vy,mG,h1,h2,h3,h4]
 by_cases h5:(l.length:Int)=5
 ·have zp:l.length=5:=by omega
  simp[vy,h1,h2,h3,h4,zp];refine⟨_,acJ l 130 [.ref (.int r.orders.length)] (fun k=>Jn r.orders.length (l.getD k 0)) (fun k hk=>by simpa [Jn,hk] using af8 l[k] r.orders.length) (by omega),?_⟩;simp only[mG,zp];simp[h1,h2,h3,h4]
 ·have zp:¬l.length=5:=by omega
  simp[vy,mG,h1,h2,h3,h4,zp];intro h;omega
theorem MA {r:Realm}{a q:Int}{l:List Int}(h:mG r a q l=true):(0≤a∧a<r.orders.length)∧l.length=5∧(∀x,x∈l→0≤x∧x<r.orders.length)∧∀b:Int,0≤b→b<r.orders.length→mG r b q l=true:=by
 unfold mG at h ⊢;rw[aj] at h;obtain⟨h1,h2⟩:=h;simp at h1;refine⟨by omega,h1.2,fun x hx=>?_,fun b cu bn=>?_⟩
 ·obtain⟨k,hk,rfl⟩:=gZ hx;simp[Jn] at h2;have:=h2 k hk;simp[hk] at this;omega
 ·rw[h2];simp;omega
def Bd (r:Realm):Prop:=∀o,o∈r.orders→o.choices.length≤100000∧∀ch,ch∈o.choices→0≤ch.by_∧ch.by_<5
def w8 (q:Int)(ch:Choice):Bool:=decide (ch.ask=q)&&decide (ch.by_≠0)
def oR (r:Realm)(a:Int):Order:=r.orders.getD a.toNat default
def gy (r:Realm)(a q:Int)(l:List Int):Int×Bool:=
 (match(oR r a).choices.find? (w8 q) with|some ch=>l.getD ch.by_.toNat 0|none=>a,match(oR r a).choices.find? (w8 q) with|some ch=>ch.whole|none=>false)
theorem TX (r:Realm)(pQ:Bd r)(a q:Int)(l:List Int)(hl:l.length≤100000)(hf:mG r a q l=true):
 av T 108 [bK r,.int a,.int q,ints l] (.tup [.int (gy r a q l).1,.bool (gy r a q l).2])∧0≤(gy r a q l).1∧(gy r a q l).1<r.orders.length:=by
 obtain⟨ha,WX,hx,_⟩:=MA hf;have zx:a.toNat<r.orders.length:=by omega
 obtain⟨aS,mI⟩:=pQ _ (dJ zx);obtain⟨o,ho⟩:∃o,o=r.orders[a.toNat]:=⟨_,rfl⟩
 rw[←ho] at aS mI;have NN:oR r a=o:=by rw[ho];simp[oR,zx]
 unfold gy;rw[NN];refine⟨?_,?_⟩
 ·refine .of_tree rfl (lA 27 (by kernel_rfl)) apG ?_;simp[RR];refine⟨_,VK r a q l hl,?_⟩;simp[hf,zx,←ho,ha];refine aU.scan o.choices.length (fun k=>w8 q (o.choices.getD k default)=false) (fun k=>[.int 0,.bool false,.int k]) (fun _=>[]) ?_ (fun k hk hj az=>?_) (fun k hk hj az=>?_) (fun hj=>?_)
  ·simp
  ·have hw:=bJ hk (by omega);have hn:¬(o.choices[k].ask=q∧¬o.choices[k].by_=0):=by simpa [w8,hk] using az
   simp[Qy,Es,zx,←ho,hk,hw,hn]
  ·have oB:=Cg hk (by simpa [hk] using az) (fun j bA=>by have:=hj j bA;simpa [show j<o.choices.length by omega] using this);rw[oB];have hc:o.choices[k].ask=q∧¬o.choices[k].by_=0:=by simpa [w8,hk] using az
   have hb:=mI _ (dJ hk);have j3:o.choices[k].by_.toNat<l.length:=by omega
   simp[Qy,Es,zx,←ho,hk,hc,ints,j3];omega
  ·have oB:=Mz (l:=o.choices) (p:=w8 q) (fun j bA=>by have:=hj j bA;simpa [bA] using this);rw[oB];simp[Qy,Es,zx,←ho]
 ·cases oB:o.choices.find? (w8 q) with
  |none=>exact ha
  |some ch=>
   have hb:=mI _ (qL oB);have j3:ch.by_.toNat<l.length:=by omega
   simp[j3];exact hx _ (dJ j3)
theorem PS:∀(N:Nat) (l:List Int),l.Nodup→(∀x,x∈l→0≤x∧x<(N:Int))→l.length≤N
 |0,l,hn,h=>by
  cases l with
  |nil=>simp
  |cons a l=>have:=h a (by simp);omega
 |N+1,l,hn,h=>by
  by_cases hm:(N:Int)∈l
  ·have h1:=PS N (l.erase (N:Int)) (hn.erase _) (fun x hx=>by
    have dD:=(hn.mem_erase_iff).mp hx;have:=h x dD.2;have ay:=dD.1;omega)
   rw[List.length_erase_of_mem hm] at h1;omega
  ·have h1:=PS N l hn (fun x hx=>by
    have:=h x hx;have ay:x≠(N:Int):=fun e=>hm (e▸hx);omega)
   omega
def dE (l:List Int):Int:=l.getD (l.length-1) 0
def lD (r:Realm)(q:Int)(l:List Int):Nat→List Int→List Int×Int
 |0,p=>(p,0)
 |n+1,p=>
  if(gy r (dE p) q l).1=dE p then(p,0)
  else if(gy r (dE p) q l).2=false∨(hasB p (gy r (dE p) q l).1=true∧(oR r (gy r (dE p) q l).1).accepts=true) then(p++[(gy r (dE p) q l).1],0)
  else if hasB p (gy r (dE p) q l).1=true then(p++[(gy r (dE p) q l).1],12)
  else lD r q l n (p++[(gy r (dE p) q l).1])
theorem OL (r:Realm)(q:Int)(l:List Int)(n:Nat)(p:List Int):lD r q l (n+1) p=
 if(gy r (dE p) q l).1=dE p then(p,0)
 else if(gy r (dE p) q l).2=false∨(hasB p (gy r (dE p) q l).1=true∧(oR r (gy r (dE p) q l).1).accepts=true) then(p++[(gy r (dE p) q l).1],0)
 else if hasB p (gy r (dE p) q l).1=true then(p++[(gy r (dE p) q l).1],12)
 else lD r q l n (p++[(gy r (dE p) q l).1]):=rfl
def ij (r:Realm)(a q:Int)(l:List Int):List Int×Int:=if mG r a q l=true∧l.getD 0 0=a then lD r q l r.orders.length [a] else([],1)
theorem acT (r:Realm)(pQ:Bd r)(hn:r.orders.length≤100000)(a q:Int)(l:List Int)(hl:l.length≤100000):av T 84 [bK r,.int a,.int q,ints l] (.tup [ints (ij r a q l).1,.int (ij r a q l).2]):=by
 refine .of_tree rfl (lA 22 (by kernel_rfl)) apF ?_;simp[RQ];refine⟨_,VK r a q l hl,?_⟩;cases hf:mG r a q l
 ·simp[ij,hf];rfl
 obtain⟨ha,WX,hx,zu⟩:=MA hf;have h0:0<l.length:=by omega
 by_cases CZ:l[0]=a
 ·have hE:ij r a q l=lD r q l r.orders.length [a]:=by unfold ij;rw[if_pos ⟨hf,by simp[h0,CZ]⟩]
  rw[hE];simp[h0,CZ,ints];refine aU.forLoop (α:=Nat×List Int) (fun s vr vo=>vr=[.list [],.int 0,.none]∧vo=[ints s.2]∧s.2.Nodup∧(∀x,x∈s.2→0≤x∧x<(r.orders.length:Int))∧s.2≠[]∧s.1+s.2.length=r.orders.length+1∧lD r q l s.1 s.2=lD r q l r.orders.length [a]) (fun s=>s.1) (r.orders.length,[a]) ?_ ?_
  ·simp[ints];exact ha
  ·rintro⟨n,p⟩ vr vo ⟨rfl,rfl,bj,bo,ay,hlen,C0⟩;simp only at*;have fF:p.length≤r.orders.length:=PS _ p bj bo;have Dh:0<p.length:=KZ.mpr ay;obtain⟨m,rfl⟩:∃m,n=m+1:=⟨n-1,by omega⟩
   have ae:p.length-1<p.length:=by omega
   have ls:dE p=p[p.length-1]:=by simp[dE,ae]
   have wJ:=bo _ (dJ ae);rw[←ls] at wJ;obtain⟨MY,gw,gx⟩:=TX r pQ (dE p) q l hl (zu _ wJ.1 wJ.2);have Nx:((p.length:Int)-1).toNat=p.length-1:=by omega
   have Ow:IntKind.i64.wrap ((p.length:Int)-1)=(p.length:Int)-1:=cn (by omega);rw[←C0,OL];obtain⟨L,hL⟩:∃L,L=gy r (dE p) q l:=⟨_,rfl⟩
   rw[←hL] at MY gw gx ⊢;obtain⟨to,whole⟩:=L;simp only at MY gw gx;have zS:to.toNat<r.orders.length:=by omega
   have NN:oR r to=r.orders[to.toNat]:=by simp[oR,zS]
   simp only[NN];simp[aoc,Qx,Ow,Nx,ae,←ls,ints];refine⟨by omega,_,MY,?_⟩;by_cases h1:to=dE p
   ·simp[h1]
   simp[h1];refine⟨_,FD p to (by omega),by omega,?_⟩;cases whole
   ·simp
   cases h2:hasB p to
   ·have dq:to∉p:=fun hm=>by
     have:hasB p to=true:=by simp[hasB,hm]
     rw[h2] at this;cases this
    simp[h2];refine⟨m,by omega,p++[to],by simp,?_,?_,by simp,by simp;omega,rfl⟩
    ·exact Bh.mpr ⟨bj,by simp,fun x hx y hy=>by simp at hy;subst hy;exact fun e=>dq (e▸hx)⟩
    ·intro x hx;rcases cR.mp hx with h|h
     ·exact bo x h
     ·simp at h;subst h;exact⟨gw,gx⟩
   ·cases h3:r.orders[to.toNat].accepts<;>simp[h2,h3,zS]<;>omega
 ·have hE:ij r a q l=([],1):=by unfold ij;rw[if_neg (by simp[h0,CZ])]
  rw[hE];simp[h0,CZ];rfl
end Rm
namespace Rm
open Go Go.Proofs Cx
def fe (f:File)(i:Int):Sign:=f.signs.getD i.toNat default
def me (r:Realm)(aL:Int)(c:Case):List Int:=[aL,mY r (fe c.file c.sign).city,mY r c.file.bill.pay,mY r c.file.bill.city,mY r (r.firms.getD (fe c.file c.sign).who.toNat default).city]
def py (r:Realm)(aL:Int)(c:Case):Prop:=(fe c.file c.sign).who<0∨(r.firms.length:Int)≤(fe c.file c.sign).who∨aL<0∨(r.orders.length:Int)≤aL
instance (r:Realm) (aL:Int) (c:Case):Decidable (py r aL c):=by unfold py;infer_instance
def gz (r:Realm)(aL:Int)(c:Case):List Int:=if py r aL c then[] else if hasB (me r aL c) (-1)=true then[] else me r aL c
@[simp] theorem auf (r:Realm)(x:Int):yi (bK r) x=mY r x:=by
  unfold yi mY aD;by_cases h:0≤x∧x<(r.cities.length:Int)
  ·have hx:x.toNat<r.cities.length:=by omega
   rw[if_pos (by simpa using h),if_pos (by simpa using h)];simp[hx]
  ·rw[if_neg (by simpa using h),if_neg (by simpa using h)]
theorem aax (r:Realm)(aL:Int)(c:Case)(h1:c.sign.toNat<c.file.signs.length):PU [bK r,.int aL,cg c]=ints (gz r aL c):=by
 have hs:fe c.file c.sign=c.file.signs[c.sign.toNat]:=by simp[fe,h1]
 unfold PU gz;simp[h1];by_cases hb:py r aL c
 ·rw[if_pos (by simpa [py,hs] using hb),if_pos hb];rfl
 ·rw[if_neg (by simpa [py,hs] using hb),if_neg hb];have IC:(fe c.file c.sign).who.toNat<r.firms.length:=by unfold py at hb;omega
  have XK:c.file.signs[c.sign.toNat].who.toNat<r.firms.length:=by rw[←hs];exact IC
  have kz:me r aL c=[aL,mY r c.file.signs[c.sign.toNat].city,mY r c.file.bill.pay,mY r c.file.bill.city,mY r r.firms[c.file.signs[c.sign.toNat].who.toNat].city]:=by
   simp[me,hs,XK]
  have cA:∀l:List Int,hasB l (-1)=true↔-1∈l:=fun l=>by simp[hasB]
  rw[kz];simp[XK];split
  ·rename_i h;rw[if_pos ((cA _).mpr (by simpa using h))];rfl
  ·rename_i h;rw[if_neg (fun h'=>h (by simpa using(cA _).mp h'))]
theorem anx (r:Realm)(aL:Int)(c:Case)(h1:0≤c.sign∧c.sign<c.file.signs.length):av T 83 [bK r,.int aL,cg c] (ints (gz r aL c)):=by
 have dC:c.sign.toNat<c.file.signs.length:=by omega
 rw[←aax r aL c dC];have hs:fe c.file c.sign=c.file.signs[c.sign.toNat]:=by simp[fe,dC]
 refine av.of_nsl rfl apt apu ?_;rw[aax r aL c dC];by_cases hb:py r aL c
 ·refine .inr ⟨by simp[gz,hb];rfl,?_⟩;have gL:=hb;simp[py,hs] at gL;simp[Kz,h1,dC]
  intros;omega
 have q8:gz r aL c=if hasB (me r aL c) (-1)=true then[] else me r aL c:=by unfold gz;rw[if_neg hb]
 have gL:=hb;simp[py,hs] at gL;have hw:c.file.signs[c.sign.toNat].who.toNat<r.firms.length:=by omega
 have hC:=FD (me r aL c) (-1) (by simp[me]);cases hh:hasB (me r aL c) (-1)<;>rw[hh] at hC<;>simp[me,ints,hs,hw] at hC
 ·refine .inl ⟨(me r aL c).map .int,by simp[me],by rw[q8,hh];rfl,?_⟩;simp[RG,h1,dC,hw];rw[if_neg (by omega)];refine⟨_,rG r _,_,rG r _,_,rG r _,by omega,_,rG r _,_,by simpa using hC,?_⟩;simp[me,hs,hw]
 ·refine .inr ⟨by rw[q8,hh];rfl,?_⟩;simp[Kz,h1,dC,hw]
  intros
  refine⟨_,rG r _,_,rG r _,_,rG r _,by omega,_,rG r _,_,by simpa using hC,?_⟩;simp
end Rm
namespace Rm
open Go Go.Proofs Cx
structure Right (r:Realm):Prop where
 by_:Bd r
 len:r.orders.length≤100000
 ok:∀o,o∈r.orders→o.OK∧o.rules.length≤100000
structure FewS (f:File):Prop where
 signs:f.signs.length≤1000
 alters:f.alters.length≤1000
 acts:f.acts.length≤1000
 facts:f.facts.length≤1000
theorem Tl {α:Type}(p:α→Bool)(l:List α):(l.takeWhile p).length≤l.length:=by
 obtain⟨m,h1,h2,_⟩:=KF p l;rw[h2,du];omega
theorem FewS.at_ {f:File}(h:FewS f)(day:Int):FewS (fZ f day):=
 ⟨cL (Tl _ _) h.1,cL (KY _ _) h.2,cL (Tl _ _) h.3,cL (KY _ _) h.4⟩
def bL (c:Case):Case:={c with file:=fZ c.file c.day}
@[simp] theorem at5 (x:File)(a0 a1 a2 a3 a4 a5 a6 a7 a8 a9 vS vT vU vV vW Bj Bk Bl Bm:D)(s h d u y:Int):mB 24 (D.agg (ff [a0,a1,a2,a3,a4,a5,a6,a7,a8,a9,vS,vT,vU,vV,vW,Bj,Bk,Bl,Bm,.int s,.int h,.int d,.int u,.int y] 0 [.int x.bill.drawer,.int x.bill.drawee,.int x.bill.payee,.int x.bill.sum,.int x.bill.currency,.int x.bill.tenor.kind,.int x.bill.tenor.n,.int x.bill.tenor.unit,.int x.bill.day,.int x.bill.city,.int x.bill.pay,.int x.bill.need,.int x.bill.rate,.int x.bill.flags,.int x.bill.parts,signs x.signs,alters x.alters,acts x.acts,facts x.facts]))=cg ⟨x,s,h,d,u,y⟩:=_root_.id rfl
theorem adu (r:Realm)(c:Case)(hf:FewS c.file):av T 81 [bK r,cg c] (.tup [cg (bL c),cells (eA r (bL c))]):=by
 refine .of_tree rfl (lA 8 (by kernel_rfl)) aps ?_;simp[RF];have h1:=hf.1;have h2:=hf.2;have h3:=hf.3;have h4:=hf.4;refine⟨_,aom c.file c.day (by omega) (by omega) (by omega) (by omega),?_⟩;have H0:=hf.at_ c.day;have h5:=H0.4;have h6:=H0.2;simp;exact⟨aon r (bL c) (by show(fZ c.file c.day).facts.length≤_;omega) (by show(fZ c.file c.day).alters.length≤_;omega),(congrArg (mB 24) (anf (bL c) _ _ _ _ _ _ _ _ _ _ _ _ _ _ _ _ _ _ _ _ _ _ _ _)).trans (adl (bL c))⟩
theorem arv {r:Realm}{c:Case}(h:eA r c≠[]):0≤c.sign∧c.sign<c.file.signs.length:=by
 unfold eA at h;split at h
 ·rename_i hh;have h1:=hh.1;unfold kp at h1;simp[aD] at h1;omega
 ·exact absurd rfl h
theorem X8 (r:Realm)(pQ:Bd r)(q:Int)(l:List Int)(hl:l.length≤100000)(zu:∀b:Int,0≤b→b<r.orders.length→mG r b q l=true):∀(n:Nat) (p:List Int),p≠[]→(∀x,x∈p→0≤x∧x<(r.orders.length:Int))→
 (lD r q l n p).1≠[]∧∀x,x∈(lD r q l n p).1→0≤x∧x<(r.orders.length:Int)
 |0,p,ay,hp=>⟨ay,hp⟩
 |n+1,p,ay,hp=>by
  have ae:p.length-1<p.length:=by have:=KZ.mpr ay;omega
  have ls:dE p=p[p.length-1]:=by simp[dE,ae]
  have wJ:=hp _ (dJ ae);rw[←ls] at wJ;obtain⟨_,ht⟩:=TX r pQ (dE p) q l hl (zu _ wJ.1 wJ.2)
  have aT:∀x,x∈p++[(gy r (dE p) q l).1]→0≤x∧x<(r.orders.length:Int):=fun x hx=>by
   rcases cR.mp hx with h|h
   ·exact hp x h
   ·simp at h;subst h;exact ht
  rw[OL];split
  ·exact⟨ay,hp⟩
  split
  ·exact⟨by simp,aT⟩
  split
  ·exact⟨by simp,aT⟩
  ·exact X8 r pQ q l hl zu n _ (by simp) aT
theorem OJ {r:Realm}(hr:Right r){a q:Int}{l:List Int}(hl:l.length≤100000)(h:(ij r a q l).2=0):(ij r a q l).1≠[]∧0≤dE (ij r a q l).1∧dE (ij r a q l).1<r.orders.length:=by
 unfold ij at h ⊢;split at h
 ·rename_i hh;rw[if_pos hh];obtain⟨ha,WX,hx,zu⟩:=MA hh.1;obtain⟨h1,h2⟩:=X8 r hr.by_ q l hl zu r.orders.length [a] (by simp) (fun x hx=>by simp at hx;subst hx;exact ha);refine⟨h1,?_⟩;have ae:(lD r q l r.orders.length [a]).1.length-1<(lD r q l r.orders.length [a]).1.length:=by have:=KZ.mpr h1;omega
  have ls:dE (lD r q l r.orders.length [a]).1=(lD r q l r.orders.length [a]).1[(lD r q l r.orders.length [a]).1.length-1]:=by simp[dE,ae]
  rw[ls];exact h2 _ (dJ ae)
 ·cases h
theorem X9 (r:Realm)(q:Int)(l:List Int):∀(n:Nat) (p:List Int),(lD r q l n p).1.length≤p.length+n
 |0,p=>by simp[lD]
 |n+1,p=>by
  rw[OL];split
  ·simp
  split
  ·simp
  split
  ·simp
  ·have:=X9 r q l n (p++[(gy r (dE p) q l).1]);simp at this;omega
theorem akR (r:Realm)(a q:Int)(l:List Int):(ij r a q l).1.length≤1+r.orders.length:=by
 unfold ij;split
 ·exact X9 r q l _ [a]
 ·simp
@[simp] theorem axF (a b c d e x:D):ff [a,b,c,d,e] 2 [x]=[a,b,x,d,e]:=_root_.id rfl
@[simp] theorem axG (a b c d e x:D):ff [a,b,c,d,e] 3 [x]=[a,b,c,x,e]:=_root_.id rfl
@[simp] theorem axH (a b c d e x:D):ff [a,b,c,d,e] 4 [x]=[a,b,c,d,x]:=_root_.id rfl
def O6:Said:=⟨eP,-1,[],1⟩
def eV (r:Realm)(aL q:Int)(c:Case):Said×List Cell:=
 if eA r (bL c)=[] then(O6,[]) else if(qD q).2=false then(O6,[]) else if gz r aL (bL c)=[] then(O6,[]) else
    (⟨eP,if(ij r aL q (gz r aL (bL c))).2=0 then dE (ij r aL q (gz r aL (bL c))).1 else-1,(ij r aL q (gz r aL (bL c))).1,(ij r aL q (gz r aL (bL c))).2⟩,eA r (bL c))
theorem PV (r:Realm)(aL:Int)(c:Case):(gz r aL c).length≤5:=by
 unfold gz;split
 ·simp
 split<;>simp[me]
theorem adt (r:Realm)(hr:Right r)(aL q:Int)(c:Case)(hf:FewS c.file):av T 63 [bK r,.int aL,.int q,cg c] (.tup [Mp (eV r aL q c).1,cells (eV r aL q c).2]):=by
 refine .of_tree rfl (lA 7 (by kernel_rfl)) apr ?_;simp[RE];refine⟨_,adu r c hf,?_⟩;by_cases hv:eA r (bL c)=[]
 ·simp[hv,eV];exact⟨rfl,rfl⟩
 simp[hv,eV];refine⟨_,PL q,?_⟩;cases hq:(qD q).2
 ·simp[hq];exact⟨rfl,rfl⟩
 simp[hq];refine⟨_,anx r aL (bL c) (arv hv),?_⟩;by_cases hp:gz r aL (bL c)=[]
 ·simp[hp];exact⟨rfl,rfl⟩
 have fF:=PV r aL (bL c);have ay:ints (gz r aL (bL c))≠.list []:=fun e=>hp (by simpa [ints] using e);simp[hp];generalize gz r aL (bL c)=l at*;refine⟨_,acT r hr.by_ hr.len aL q l (by omega),?_⟩;have hlen:=akR r aL q l;have C0:=OJ hr (a:=aL) (q:=q) (l:=l) (by omega);have NR:=hr.len;generalize ij r aL q l=L at*;obtain⟨path,err⟩:=L;simp only at*;by_cases he:err=0
 ·obtain⟨h1,h2⟩:=C0 he;have Dh:=KZ.mpr h1;have Ow:IntKind.i64.wrap ((path.length:Int)-1)=(path.length:Int)-1:=cn (by omega);have Nx:((path.length:Int)-1).toNat=path.length-1:=by omega
  have ae:path.length-1<path.length:=by omega
  have ls:dE path=path[path.length-1]:=by simp[dE,ae]
  simp[he,Ow,Nx,ae,←ls];exact⟨by omega,rfl⟩
 ·simp[he];rfl
def kV (r:Realm)(aL q:Int)(c:Case):Said:=
 if(eV r aL q c).1.order=-1 then(eV r aL q c).1
 else⟨(mC (oR r (eV r aL q c).1.order) q (eV r aL q c).2).1,(eV r aL q c).1.order,(eV r aL q c).1.path,(mC (oR r (eV r aL q c).1.order) q (eV r aL q c).2).2⟩
theorem ads {r:Realm}(hr:Right r)(aL q:Int)(c:Case):(eV r aL q c).1.order=-1∨(0≤(eV r aL q c).1.order∧(eV r aL q c).1.order<r.orders.length):=by
 unfold eV;split
 ·exact .inl rfl
 split
 ·exact .inl rfl
 split
 ·exact .inl rfl
 ·have fF:=PV r aL (bL c);have C0:=OJ hr (a:=aL) (q:=q) (l:=gz r aL (bL c)) (by omega);show(if _ then _ else _)=_∨_;split
  ·rename_i h;exact .inr (C0 h).2
  ·exact .inl rfl
theorem UB (r:Realm)(hr:Right r)(aL q:Int)(c:Case)(hf:FewS c.file):av T 30 [bK r,.int aL,.int q,cg c] (Mp (kV r aL q c)):=by
 refine .of_tree rfl (lA 6 (by kernel_rfl)) apq ?_;simp[RD];refine⟨_,adt r hr aL q c hf,?_⟩;have ho:=ads hr aL q c;unfold kV;generalize eV r aL q c=S at*;obtain⟨s,cs⟩:=S;simp only at*;by_cases h:s.order=-1
 ·obtain⟨⟨kn,n⟩,o,pth,e⟩:=s;simp only at h;subst h;simp;rfl
 ·have h1:0≤s.order∧s.order<r.orders.length:=by omega
  have h2:s.order.toNat<r.orders.length:=by omega
  have h3:oR r s.order=r.orders[s.order.toNat]:=by simp[oR,h2]
  obtain⟨az,hlen⟩:=hr.ok _ (dJ h2);simp[h,h1,h2,h3];refine⟨_,ana _ q cs az (by omega),?_⟩;simp;rfl
end Rm
namespace Rm
open Go Go.Proofs Cx
end Rm
namespace Rm
open Go Go.Proofs Cx
theorem ac2 (r:Realm)(fr to:Int)(hl:r.usances.length≤100000):∃n e:Int,av T 75 [bK r,.int fr,.int to] (.tup [.int n,.int e])∧(e=0→∃u,u∈r.usances∧n=u.days)∧(e=0↔∃u,u∈r.usances∧u.fr=fr∧u.to=to):=by
 let p:Usance→Bool:=fun u=>decide (u.fr=fr)&&decide (u.to=to)
 refine⟨match r.usances.find? p with|some u=>u.days|none=>0,match r.usances.find? p with|some u=>0|none=>4,?_,?_⟩
 ·refine .of_tree rfl (lA 80 (by kernel_rfl)) aqk ?_;simp[Sv];refine aU.scan r.usances.length (fun k=>p (r.usances.getD k default)=false) (fun k=>[.int 0,.int 0,.int k]) (fun _=>[]) ?_ (fun k hk hj az=>?_) (fun k hk hj az=>?_) (fun hj=>?_)
  ·simp
  ·have hw:=bJ hk (by omega);have hn:¬(r.usances[k].fr=fr∧r.usances[k].to=to):=by simpa [p,hk] using az
   simp[QJ,EE,hk,hw,hn]
  ·have oB:=Cg hk (by simpa [hk] using az) (fun j bA=>by have:=hj j bA;simpa [show j<r.usances.length by omega] using this);have hc:r.usances[k].fr=fr∧r.usances[k].to=to:=by simpa [p,hk] using az
   rw[oB];simp[QJ,EE,hk,hc]
  ·have oB:=Mz (l:=r.usances) (p:=p) (fun j bA=>by have:=hj j bA;simpa [bA] using this);rw[oB];simp[QJ,EE]
 ·cases h:r.usances.find? p with
  |none=>
   refine⟨fun h=>(by cases h),fun h=>(by cases h),fun⟨u,hu,h1,h2⟩=>?_⟩;have:=nZ.1 h u hu;simp[p,h1,h2] at this
  |some u=>
   have h2:u.fr=fr∧u.to=to:=by simpa [p] using x9 h
   exact⟨fun _=>⟨u,qL h,rfl⟩,fun _=>⟨u,qL h,h2⟩,fun _=>rfl⟩
end Rm
namespace Rm
open Go Go.Proofs Cx
end Rm
namespace Rm
open Go Go.Proofs Cx
end Rm
namespace Rm
open Go Go.Proofs Cx
end Rm
namespace Rm
open Go Go.Proofs Cx
end Rm
namespace Rm
open Go Go.Proofs Cx
def TV (r:Realm):Prop:=r.halts.length≤100000∧∀h,h∈r.halts→0≤h.fr∧h.to≤100000
end Rm
namespace Rm
open Go Go.Proofs Cx
structure RightD (r:Realm):Prop where
 small:Small r
 halts:TV r
theorem av.ex_of_tree {tab:Nat→Option PC}{ext:Nat→Option (aV→List D→Option D)}{f:Nat}{pc:PC}{t:PT}{ds:List D}{P:D→Prop}(hx:ext f=none)(ht:tab f=some pc)(he:tree pc=t)
 (h:aG (fM tab ext) t (lO ds) (fun x=>∃d,x=.ret d∧P d)):∃d,av (fM tab ext) f ds d∧P d:=by
 subst he;obtain⟨x,⟨d,rfl,hd⟩,n0,hn⟩:=acn (Ju ⟨fun _ _ _ h=>(by obtain⟨_,h,_⟩:=h;cases h),fun _ _ _ _ _ _ h=>(by obtain⟨_,h,_⟩:=h;cases h),fun _ h=>h⟩ h);exact⟨d,.of_pc hx ht ⟨.ret d,rfl,n0,hn⟩,hd⟩
end Rm
namespace Rm
open Go Go.Proofs Cx
end Rm
namespace Rm
open Go Go.Proofs Cx
end Rm
namespace Rm
open Go Go.Proofs Cx
end Rm
namespace Rm
open Go Go.Proofs Cx
theorem agb {n:Nat}{f:Nat→Int}(h:fO n f=0)(k:Nat)(hk:k<n):f k=0:=MD.1 h k hk
theorem aeb {r:Realm}(h:oh r=0)(k:Nat)(hk:k<r.orders.length):uX r.orders[k]=true:=by
 unfold oh at h;rw[Rn] at h;have h1:=h (ou (tc r) 20 (xq r)) (by simp);unfold ou at h1;split at h1
 ·cases h1
 have h2:=agb h1 k (by simpa [tc] using hk);have h3:=(age h2).2;unfold xq at h3;simpa [hk] using h3
theorem ahi {r:Realm}(hs:Small r)(h:oh r=0):Bd r:=by
 intro o ho;obtain⟨k,hk,rfl⟩:=gZ ho;have h1:=aeb h k hk;obtain⟨hc,_⟩:=hs.order _ ho;refine⟨by omega,fun ch mI=>?_⟩;unfold uX at h1;simp only[aj] at h1;obtain⟨j,hj,rfl⟩:=gZ mI;have h2:=FZ.1 h1.1 j hj;simpa [aD,hj] using h2
theorem ahj {r:Realm}(hs:Small r)(h:oh r=0):TV r:=by
 refine⟨by have:=hs.halts;omega,fun x hx=>?_⟩;obtain⟨k,hk,rfl⟩:=gZ hx;unfold oh at h;rw[Rn] at h;have h1:=h (vk r) (by simp);unfold vk at h1;split at h1
 ·cases h1
 split at h1
 ·cases h1
 split at h1
 ·cases h1
 split at h1
 ·rename_i aF;have h2:=FZ.1 aF k hk;simp[CD,wi,aD,hk] at h2;omega
 ·cases h1
structure Good (r:Realm) (f:File):Prop where
 right:Right r
 rightD:RightD r
 few:FewS f
theorem ahk {r:Realm}{f:File}(hr:r.OK)(h:Ht r f=true):Good r f:=by
 unfold Ht sE at h;simp only[aj,decide_eq_true_eq] at h;obtain⟨⟨⟨h1,h2⟩,h3⟩,h4⟩:=h;have hs:=Mw hr h1;refine⟨⟨ahi hs h4,by have:=hs.orders;omega,fun o ho=>?_⟩,⟨hs,ahj hs h4⟩,?_⟩
 ·have:=hs.order o ho;refine⟨?_,by omega⟩;exact hr.2.2.2.2.1.2 o ho
 ·simp[Ce] at h2;exact⟨by omega,by omega,by omega,by omega⟩
end Rm
namespace Rm
open Go Go.Proofs Cx
end Rm
namespace Rm
open Go Go.Proofs Cx
def ju (a b:Cell):Prop:=a.known=true→b=a
theorem ju.rfl' (a:Cell):ju a a:=fun _=>rfl
theorem ju.no (b:Cell):ju eP b:=fun h=>by cases h
def qH (l l':List Cell):Prop:=l.length=l'.length∧∀i,ju (aJ l i) (aJ l' i)
theorem L9 {α:Type}(f:α→Cell)(l:List α)(i:Nat)(hi:i<l.length):aJ (l.map f) i=f l[i]:=by
 simp[aJ,hi]
theorem U3 (l:List Cell)(i:Nat)(hi:l.length≤i):aJ l i=default:=by
 simp[aJ,hi]
theorem qH.map {α:Type}{f g:α→Cell}{l:List α}(h:∀a,a∈l→ju (f a) (g a)):qH (l.map f) (l.map g):=by
 refine⟨by simp,fun i=>?_⟩;by_cases hi:i<l.length
 ·rw[L9 f l i hi,L9 g l i hi];exact h _ (dJ hi)
 ·rw[U3 _ i (by simpa using hi),U3 _ i (by simpa using hi)];exact .rfl' _
theorem arq {cs gJ:List Cell}(h:qH cs gJ)(v:Int):ju (jt cs v) (jt gJ v):=by
 intro hk;have hv:=h.2 v.toNat;unfold jt at hk ⊢;unfold cellAt at hk ⊢;unfold aJ at hv;by_cases h1:cs.length≤v.toNat∨(cs.getD v.toNat default).known=false
 ·rw[if_pos h1] at hk;cases hk
 ·have h2:(cs.getD v.toNat default).known=true:=by
   cases e:(cs.getD v.toNat default).known
   ·exact absurd (.inr e) h1
   ·rfl
  rw[hv h2,←h.1]
theorem Vc {l l':List Cell}(h:qH l l')(op:Int):ju (fw op l) (fw op l'):=by
 intro hk;have h0:=h.2 0;have h1:=h.2 1;have h2:=h.2 2;unfold fw at hk ⊢;by_cases o3:op=3
 ·rw[if_pos o3] at hk ⊢;rw[if_pos o3];cases e:(aJ l 0).known
  ·rw[e] at hk;cases hk
  ·rw[h0 e,e]
 rw[if_neg o3] at hk ⊢;rw[if_neg o3];by_cases o4:(op=4∨op=5)∧(aJ l 0=eB (decide (op=5))∨aJ l 1=eB (decide (op=5)))
 ·have o4':(op=4∨op=5)∧(aJ l' 0=eB (decide (op=5))∨aJ l' 1=eB (decide (op=5))):=by
   refine⟨o4.1,?_⟩;have hy:∀b,(eB b).known=true:=fun b=>by cases b<;>rfl
   rcases o4.2 with e|e
   ·exact .inl ((h0 (by rw[e];exact hy _)).trans e)
   ·exact .inr ((h1 (by rw[e];exact hy _)).trans e)
  rw[if_pos o4,if_pos o4']
 rw[if_neg o4] at hk ⊢;by_cases o6:op=6
 ·have o5:¬((op=4∨op=5)∧(aJ l' 0=eB (decide (op=5))∨aJ l' 1=eB (decide (op=5)))):=by omega
  rw[if_pos o6] at hk ⊢;rw[if_neg o5,if_pos o6];by_cases e:(aJ l 1).known=true∧aJ l 1=aJ l 2
  ·have e1:=h1 e.1;have e2:=h2 (by rw[←e.2];exact e.1);rw[if_pos e,e1,e2,if_pos e]
  ·rw[if_neg e] at hk;cases hk
 rw[if_neg o6] at hk ⊢;by_cases ok:(aJ l 0).known=false∨(aJ l 1).known=false
 ·rw[if_pos ok] at hk;cases hk
 have k0:(aJ l 0).known=true:=by cases e:(aJ l 0).known<;>simp[e] at ok ⊢
 have k1:(aJ l 1).known=true:=by cases e:(aJ l 1).known<;>simp[e] at ok ⊢
 rw[h0 k0,h1 k1,if_neg o4,if_neg o6]
theorem Vx:∀{L:Nat} {t:Tm} {k:Int} {cs gJ:List Cell},qH cs gJ→bM L t=(k,0)→ju (be L cs t) (be L gJ t)
 |0,t,k,cs,gJ,hc,h=>.no _
 |L+1,t,k,cs,gJ,hc,h=>by
  obtain⟨hn,hk⟩:=BN h;obtain⟨ha,_⟩:=BM h;have ih:∀a,a∈t.args→ju (be L cs a) (be L gJ a):=fun a hm=>Vx hc (show bM L a=((bM L a).1,0) by rw[←ha a hm]);have ir:∀(c:List Cell) a,a∈t.args→sl (bM L a).1 (be L c a):=fun c a hm=>Hk c (show bM L a=((bM L a).1,0) by rw[←ha a hm]);have im:=qH.map ih;rw[wq,wq];by_cases o0:t.op=0∨t.op=1
  ·rw[if_pos o0,if_pos o0];exact .rfl' _
  rw[if_neg o0,if_neg o0];by_cases o2:t.op=2
  ·rw[if_pos o2,if_pos o2];exact arq hc _
  rw[if_neg o2,if_neg o2];by_cases o6:t.op=6
  ·cases hn with
   |ite k h0 bx=>
    obtain⟨a,b,c,hl,e1,e2,e3⟩:=DQ bx;rw[hl] at ih ir im ⊢;have r1:=ir gJ a (by simp);rw[e1] at r1;have m1:=ih a (by simp);have m2:=ih b (by simp);have m3:=ih c (by simp);by_cases g:t.op=6∧(aJ ([a,b,c].map (be L cs)) 0).known=true
    ·have e:aJ ([a,b,c].map (be L gJ)) 0=aJ ([a,b,c].map (be L cs)) 0:=im.2 0 g.2;have g':t.op=6∧(aJ ([a,b,c].map (be L gJ)) 0).known=true:=⟨g.1,by rw[e];exact g.2⟩
     rw[if_pos g,if_pos g',e];exact im.2 _
    rw[if_neg g];by_cases g':t.op=6∧(aJ ([a,b,c].map (be L gJ)) 0).known=true
    ·rw[if_pos g'];intro pZ;unfold fw at pZ ⊢;rw[if_neg (by omega),if_neg (by omega),if_pos o6] at pZ ⊢;simp only[gG,yd,aJ,rW,ya] at pZ g' ⊢;by_cases e:(be L cs b).known=true∧be L cs b=be L cs c
     ·rw[if_pos e];have q1:=m2 e.1;have q2:=m3 (by rw[←e.2];exact e.1);rcases(r1.2 g'.2).1 rfl with h1|h1<;>rw[h1]
      ·show be L gJ c=_;rw[q2,e.2]
      ·show be L gJ b=_;exact q1
     ·rw[if_neg e] at pZ;cases pZ
    ·rw[if_neg g'];exact Vc im _
   |_=>omega
  ·rw[if_neg (by omega),if_neg (by omega)];exact Vc im _
theorem afZ {cs gJ:List Cell}(h:qH cs gJ)(t:Tm):ju (oq cs t) (oq gJ t):=by
 unfold oq;by_cases e:(mE t).2=0
 ·rw[if_pos e,if_pos e];exact Vx h (Ma e).2
 ·rw[if_neg e];exact .no _
theorem adp {cs gJ:List Cell}(h:qH cs gJ)(o:Order)(ask:Int):ju (mC o ask cs).1 (mC o ask gJ).1∧(mC o ask gJ).2=(mC o ask cs).2:=by
 unfold mC;by_cases e:(findF o ask).2≠0
 ·rw[if_pos e,if_pos e];exact⟨.rfl' _,rfl⟩
 rw[if_neg e,if_neg e];refine⟨?_,rfl⟩;intro hk;have hm:=afZ h (findF o ask).1;simp only at hk ⊢;cases e2:(oq cs (findF o ask).1).known
 ·rw[e2] at hk;simp[e2] at hk
 ·rw[hm e2,e2]
structure SameF (f g:File):Prop where
 bill:g.bill=f.bill
 signs:g.signs=f.signs
 alters:g.alters=f.alters
 acts:g.acts=f.acts
theorem SameF.at_ {f g:File}(h:SameF f g)(day:Int):SameF (fZ f day) (fZ g day):=by
 obtain⟨h1,h2,h3,h4⟩:=h;constructor<;>simp[fZ,h1,h2,h3,h4]
def iv (c:Case)(g:File):Case:={c with file:=g}
theorem aoN {c:Case}{g:File}(h:SameF c.file g)(r:Realm)(s:Sign)(i:Nat):aJ (pI r (iv c g) s) i=
 if i=15 then bF g 0 c.sign else if i=16 then bF g 1 c.sign else if i=17 then bF g 2 c.sign else if i=18 then bF g 3 (df c) else if i=19 then bF g 4 (df c) else aJ (pI r c s) i:=by
 obtain⟨h1,h2,h3,h4⟩:=h
 have e:(pI r (iv c g) s)=(lJ c s).map (fun p=>⟨true,p.2⟩)++(mm r c s).map (fun p=>eB p.2)++
  [bF g 0 c.sign,bF g 1 c.sign,bF g 2 c.sign,bF g 3 (df c),bF g 4 (df c)]:=by
  simp[pI,iv,lJ,mm,df,Ll,h1,h3,w7];exact⟨rfl,rfl,rfl,rfl⟩
 rw[e];unfold pI lJ mm;rcases i with _|_|_|_|_|_|_|_|_|_|_|_|_|_|_|_|_|_|_|_|i<;>simp[aJ]
theorem aoP {c:Case}{g:File}(h:SameF c.file g)(r:Realm):(eA r (iv c g)=[]↔eA r c=[]):=by
 obtain⟨h1,h2,h3,h4⟩:=h;have e1:kp (iv c g)=kp c:=by simp[kp,iv,h2,df];rfl
 unfold eA;rw[e1];simp only[iv,h2];split
 ·simp[pI,lJ]
 ·simp
def KQ (f g:File)(s h:Int):Prop:=(∀k,ju (bF f k s) (bF g k s))∧(∀k,ju (bF f k h) (bF g k h))
theorem aru {c:Case}{g:File}(h:SameF c.file g)(hf:KQ c.file g c.sign (df c))(r:Realm):qH (eA r c) (eA r (iv c g)):=by
 have e1:kp (iv c g)=kp c:=by simp[kp,iv,h.signs,df];rfl
 unfold eA;rw[e1];simp only[show(iv c g).file.signs=c.file.signs from h.signs,show(iv c g).sign=c.sign from rfl];split
 ·generalize c.file.signs.getD c.sign.toNat default=s;refine⟨by simp[pI,lJ,mm],fun i=>?_⟩;rw[aoN h r s i];have hs:∀j,j=15∨j=16∨j=17∨j=18∨j=19∨(j≠15∧j≠16∧j≠17∧j≠18∧j≠19):=by omega
  rcases hs i with e|e|e|e|e|⟨a,b,c',d,e⟩
  ·subst e;exact hf.1 0
  ·subst e;exact hf.1 1
  ·subst e;exact hf.1 2
  ·subst e;exact hf.2 3
  ·subst e;exact hf.2 4
  ·rw[if_neg a,if_neg b,if_neg c',if_neg d,if_neg e];exact .rfl' _
 ·exact⟨rfl,fun i=>.rfl' _⟩
theorem aoO {c:Case}{g:File}(h:SameF c.file g)(r:Realm)(aL:Int):gz r aL (iv c g)=gz r aL c:=by
 obtain⟨h1,h2,h3,h4⟩:=h;simp[gz,py,me,iv,fe,h1,h2]
theorem Zd (c:Case)(g:File):bL (iv c g)=iv (bL c) (fZ g c.day):=rfl
theorem UD (r:Realm)(aL q:Int){c:Case}{g:File}(h:SameF c.file g)(hf:KQ (fZ c.file c.day) (fZ g c.day) c.sign (df c)):
 ju (kV r aL q c).cell (kV r aL q (iv c g)).cell∧(kV r aL q (iv c g)).err=(kV r aL q c).err:=by
 have hs:=h.at_ c.day;have hv:=aru (c:=bL c) hs hf r;have he:=aoP (c:=bL c) hs r;have hp:=aoO (c:=bL c) hs r aL;have e1:(eV r aL q (iv c g)).1=(eV r aL q c).1:=by
  unfold eV;rw[Zd];rw[hp];by_cases e:eA r (bL c)=[]
  ·rw[if_pos e,if_pos (he.2 e)]
  ·rw[if_neg e,if_neg (fun x=>e (he.1 x))];split
   ·rfl
   split
   ·rfl
   rfl
 have e2:qH (eV r aL q c).2 (eV r aL q (iv c g)).2:=by
  unfold eV;rw[Zd];rw[hp];by_cases e:eA r (bL c)=[]
  ·rw[if_pos e,if_pos (he.2 e)];exact⟨rfl,fun i=>.rfl' _⟩
  ·rw[if_neg e,if_neg (fun x=>e (he.1 x))];split
   ·exact⟨rfl,fun i=>.rfl' _⟩
   split
   ·exact⟨rfl,fun i=>.rfl' _⟩
   exact hv
 unfold kV;rw[e1];split
 ·exact⟨.rfl' _,rfl⟩
 ·exact adp e2 _ _
end Rm
namespace Rm
open Go Go.Proofs Cx
end Rm
namespace Rm
open Go Go.Proofs Cx
theorem VB (f:File)(day k s:Int):bF (fZ f day) k s=if aD s (kh day f.signs).length=true then bF f k s else eP:=by
 unfold bF;have h:(fZ f day).facts.find? (eG k s)=if aD s (kh day f.signs).length=true then f.facts.find? (eG k s) else none:=by
  show(f.facts.filter (ku (kh day f.signs).length)).find? (eG k s)=_;generalize (kh day f.signs).length=n
  induction f.facts with
  |nil=>simp
  |cons x l ih=>
   by_cases hx:eG k s x=true
   ·have hs:x.at_=s:=by simp[eG] at hx;exact hx.2
    by_cases hn:aD s n=true
    ·have:ku n x=true:=by unfold ku;rw[hs];exact hn
     simp[xZ,this,hx,hn]
    ·have:¬ku n x=true:=by unfold ku;rw[hs];exact hn
     simp only[xZ,if_neg this,ih,if_neg hn]
   ·by_cases hn:ku n x=true
    ·simp[xZ,hn,hx,ih]
    ·simp[xZ,hn,hx,ih]
 rw[h];by_cases hn:aD s (kh day f.signs).length=true
 ·rw[if_pos hn,if_pos hn]
 ·rw[if_neg hn,if_neg hn]
end Rm
namespace Rm
open Go Go.Proofs Cx
def ma (x y:Fact):Bool:=decide (y.at_<x.at_)||(decide (y.at_=x.at_)&&decide (y.kind<x.kind))
def iM (x y:Fact):Bool:=decide (x.at_<y.at_)||(decide (y.at_=x.at_)&&decide (x.kind<y.kind))
def jV (l:List Fact)(x:Fact):List Fact:=l.filter (ma x)++[x]++l.filter (iM x)
def xQ (f:File)(x:Fact):File:=if(bF f x.kind x.at_).known=true then f else {f with facts:=jV f.facts x}
@[simp] theorem aw5:D.none.cells=[D.none]:=_root_.id rfl
end Rm
namespace Rm
open Go Go.Proofs Cx
theorem VG {α:Type}{p q:α→Bool}(h:∀y,p y=true→q y=true)(l:List α):(l.filter q).find? p=l.find? p:=by
 induction l with
 |nil=>rfl
 |cons y l ih=>
  cases hq:q y
  ·have hp:p y=false:=by
        cases e:p y
        ·rfl
        ·rw[h y e] at hq;cases hq
   rw[xZ,if_neg (by simp[hq]),ih,KV,hp]
  ·rw[xZ,if_pos hq,KV,KV,ih]
theorem VH {α:Type}{p q:α→Bool}(h:∀y,p y=true→q y=false)(l:List α):(l.filter q).find? p=none:=by
 rw[nZ];intro y hy hp;have:=(cS.mp hy).2;rw[h y hp] at this;cases this
theorem arG (f:File)(x:Fact):SameF f (xQ f x):=by
 unfold xQ;split<;>exact⟨rfl,rfl,rfl,rfl⟩
theorem arE (f:File)(x:Fact)(k s:Int):ju (bF f k s) (bF (xQ f x) k s):=by
 unfold xQ;by_cases hk:(bF f x.kind x.at_).known=true
 ·rw[if_pos hk];exact .rfl' _
 rw[if_neg hk];by_cases e:k=x.kind∧s=x.at_
 ·obtain⟨rfl,rfl⟩:=e;intro h;exact absurd h hk
 ·intro _;have hx:eG k s x=false:=by
   cases h:eG k s x
   ·rfl
   ·simp[eG] at h;exact absurd ⟨h.1.symm,h.2.symm⟩ e
  have hf:(jV f.facts x).find? (eG k s)=f.facts.find? (eG k s):=by
   unfold jV;rw[ja,FI,FI];have h1:[x].find? (eG k s)=none:=by simp[hx]
   rw[h1];have key:∀y,eG k s y=true→y.kind=k∧y.at_=s:=fun y hy=>by simpa [eG] using hy
   by_cases ae:s<x.at_∨(s=x.at_∧k<x.kind)
   ·rw[VG (q:=ma x) (fun y hy=>by obtain⟨rfl,rfl⟩:=key y hy;simpa [ma] using ae),VH (q:=iM x) (fun y hy=>by obtain⟨rfl,rfl⟩:=key y hy;simp[iM];omega)];cases f.facts.find? (eG k s)<;>rfl
   ·rw[VH (q:=ma x) (fun y hy=>by obtain⟨rfl,rfl⟩:=key y hy;simp[ma];omega),VG (q:=iM x) (fun y hy=>by obtain⟨rfl,rfl⟩:=key y hy;simp[iM];omega)];rfl
  unfold bF;rw[hf]
theorem arB (l:List Fact)(x:Fact):(jV l x).length≤l.length+1:=by
 have h:(l.filter (ma x)).length+(l.filter (iM x)).length≤l.length:=by
  induction l with
  |nil=>simp
  |cons y l ih=>
   have hd:¬(ma x y=true∧iM x y=true):=by simp[ma,iM];omega
   cases h1:ma x y<;>cases h2:iM x y<;>simp[h1,h2] at hd ⊢<;>omega
 unfold jV;simp;omega
structure MoreF (f g:File):Prop where
 same:SameF f g
 le:∀k s,ju (bF f k s) (bF g k s)
theorem MoreF.rfl' (f:File):MoreF f f:=⟨⟨rfl,rfl,rfl,rfl⟩,fun _ _=>.rfl' _⟩
theorem MoreF.with_ {f g:File}(h:MoreF f g)(x:Fact):MoreF f (xQ g x):=by
 obtain⟨⟨h1,h2,h3,h4⟩,hl⟩:=h;obtain⟨k1,k2,k3,k4⟩:=arG g x;refine⟨⟨k1.trans h1,k2.trans h2,k3.trans h3,k4.trans h4⟩,fun k s hk=>?_⟩;have e:=hl k s hk;rw[arE g x k s (by rw[e];exact hk),e]
theorem MoreF.at_ {f g:File}(h:MoreF f g)(day:Int):MoreF (fZ f day) (fZ g day):=by
 refine⟨h.same.at_ day,fun k s=>?_⟩;rw[VB,VB,h.same.signs];split
 ·exact h.le k s
 ·exact .no _
end Rm
namespace Rm
open Go Cx
end Rm
namespace Rm
open Go Go.Proofs Cx
end Rm
namespace Rm
open Go Go.Proofs Cx
@[simp] theorem aw4:D.none.b=false:=_root_.id rfl
theorem fm (n a b:Int):av T 44 [.int n,.int a,.int b] (.bool (wi n a b)):=by
 refine .of_tree rfl (lA 82 (by kernel_rfl)) ap1 ?_;simp[Sb];by_cases h:a≤n<;>simp[wi,h]
theorem nW (n m:Int):av T 73 [.int n,.int m] (.bool (aD n m)):=by
 refine .of_tree rfl (lA 78 (by kernel_rfl)) aq0 ?_;simp[Tg];by_cases h:0≤n<;>simp[aD,h]
def Ku (b:Bill):Bool:=
 if b.tenor.kind=0∨b.tenor.kind=4 then decide (b.tenor.n=0)&&decide (b.tenor.unit=0)
 else if b.tenor.kind=1∨b.tenor.kind=2 then(decide (1≤b.tenor.n)&&decide (b.tenor.n≤400))&&(decide (b.tenor.unit=0)||decide (b.tenor.unit=1))
 else if b.tenor.kind=3 then(decide (b.day≤b.tenor.n)&&decide (b.tenor.n≤100000))&&decide (b.tenor.unit=0)
 else false
theorem arJ (b:Bill):av T 74 [gp b] (.bool (Ku b)):=by
 refine .of_tree rfl (lA 79 (by kernel_rfl)) aq1 ?_;unfold Ku;simp[Th];by_cases h0:b.tenor.kind=0
 ·by_cases h1:b.tenor.n=0<;>simp[h0,h1]
 by_cases h4:b.tenor.kind=4
 ·by_cases h1:b.tenor.n=0<;>simp[h4,h1]
 simp[h0,h4];by_cases k1:b.tenor.kind=1
 ·by_cases h1:1≤b.tenor.n<;>by_cases h2:b.tenor.n≤400<;>by_cases h3:b.tenor.unit=0<;>simp[k1,h1,h2,h3]
 by_cases k2:b.tenor.kind=2
 ·by_cases h1:1≤b.tenor.n<;>by_cases h2:b.tenor.n≤400<;>by_cases h3:b.tenor.unit=0<;>simp[k2,h1,h2,h3]
 simp[k1,k2];by_cases k3:b.tenor.kind=3
 ·by_cases h1:b.day≤b.tenor.n<;>by_cases h2:b.tenor.n≤100000<;>simp[k3,h1,h2]
 simp[k3]
def td (n m:Int):Bool:=decide (n=-1)||aD n m
def xP (r:Realm)(b:Bill):Bool:=((aD b.drawer r.firms.length&&aD b.drawee r.firms.length)&&td b.payee r.firms.length)&&td b.need r.firms.length
def vD (r:Realm)(b:Bill):Bool:=(aD b.currency r.currencies.length&&aD b.city r.cities.length)&&aD b.pay r.cities.length
def Em (b:Bill):Prop:=((((1≤b.sum∧b.sum≤1099511627776)∧0≤b.day)∧b.day≤100000)∧0≤b.rate)∧b.rate≤1000
def MK (b:Bill):Prop:=((0≤b.flags∧b.flags≤7)∧(cT .and .i64 b.flags 4=0∨¬b.payee=-1))∧Ku b=true
structure BillOK (r:Realm) (b:Bill):Prop where
 realm:oh r=0
 who:xP r b=true
 where_:vD r b=true
 range:Em b
 parts:1≤b.parts∧b.parts≤4
 form:MK b
 usance:b.tenor.kind=4→∃u,u∈r.usances∧u.fr=b.city∧u.to=b.pay
def pq (P:Prop)(d:D):Prop:=∃e:Int,d=.int e∧(e=0↔P)
theorem pq.no {P:Prop}{e:Int}(h:¬P)(he:e≠0):pq P (.int e):=⟨e,rfl,fun x=>absurd x he,fun x=>absurd x h⟩
theorem pq.ok {P:Prop}(h:P):pq P (.int 0):=⟨0,rfl,fun _=>h,fun _=>rfl⟩
theorem arH (r:Realm)(hs:Small r)(b:Bill):∃d,av T 42 [bK r,gp b] d∧pq (BillOK r b) d:=by
 refine av.ex_of_tree rfl ady aqZ ?_;simp[Tf];refine⟨_,abu r hs,?_⟩;by_cases h0:oh r=0
 case neg=>
  simp[h0];exact .no (fun h=>h0 h.realm) h0
 simp[h0];refine⟨_,nW _ _,?_⟩;cases h1:aD b.drawer r.firms.length
 ·simp;exact .no (fun h=>by simpa [xP,h1] using h.who) (by decide)
 simp;refine⟨_,nW _ _,?_⟩;cases h2:aD b.drawee r.firms.length
 ·simp;exact .no (fun h=>by simpa [xP,h2] using h.who) (by decide)
 by_cases h3:td b.payee r.firms.length=true
 case neg=>
  have lR:¬b.payee=-1∧aD b.payee r.firms.length=false:=by simpa [td] using h3
  simp[lR.1];refine⟨_,nW _ _,?_⟩;simp[lR.2];exact .no (fun h=>h3 (by have:=h.who;simp[xP] at this;exact this.1.2)) (by decide)
 by_cases h4:td b.need r.firms.length=true
 case neg=>
  have sJ:¬b.need=-1∧aD b.need r.firms.length=false:=by simpa [td] using h4
  have eY:pq (BillOK r b) (.int 1):=.no (fun h=>h4 (by have:=h.who;simp[xP] at this;exact this.2)) (by decide);by_cases hp:b.payee=-1
  ·simp[hp,sJ.1];refine⟨_,nW _ _,?_⟩;simp[sJ.2];exact eY
  ·have lR:aD b.payee r.firms.length=true:=by simpa [td,hp] using h3
   simp[hp];refine⟨_,nW _ _,?_⟩;simp[lR,sJ.1];refine⟨_,nW _ _,?_⟩;simp[sJ.2];exact eY
 have IC:xP r b=true:=by simp[xP,h1,h2,h3,h4]
 have hp:b.payee=-1∨(¬b.payee=-1∧aD b.payee r.firms.length=true):=by
  by_cases e:b.payee=-1
  ·exact .inl e
  ·exact .inr ⟨e,by simpa [td,e] using h3⟩
 have hn:b.need=-1∨(¬b.need=-1∧aD b.need r.firms.length=true):=by
  by_cases e:b.need=-1
  ·exact .inl e
  ·exact .inr ⟨e,by simpa [td,e] using h4⟩
 have bad:¬vD r b=true→pq (BillOK r b) (.int 1):=fun h=>.no (fun k=>h k.where_) (by decide);have fin:∀u:Int,(u=0↔∃u,u∈r.usances∧u.fr=b.city∧u.to=b.pay)→Em b→(1≤b.parts∧b.parts≤4)→MK b→vD r b=true→pq (BillOK r b) (if b.tenor.kind=4 then .int u else .int 0):=by
  intro u hu h6 h7 h8 h9;by_cases e:b.tenor.kind=4
  ·rw[if_pos e];exact⟨u,rfl,fun h=>⟨h0,IC,h9,h6,h7,h8,fun _=>hu.1 h⟩,fun h=>hu.2 (h.usance e)⟩
  ·rw[if_neg e];exact .ok ⟨h0,IC,h9,h6,h7,h8,fun h=>absurd h e⟩
 obtain⟨un,ue,Dx,_,Dy⟩:=ac2 r b.city b.pay (by have:=hs.us;omega);rcases hp with hp|⟨hp,fR⟩<;>rcases hn with hn|⟨hn,p8⟩
 case' inl.inl=>simp[hp,hn]
 case' inl.inr=>simp[hp,hn];refine⟨_,nW _ _,?_⟩;simp[p8]
 case' inr.inl=>simp[hp,hn];refine⟨_,nW _ _,?_⟩;simp[fR]
 case' inr.inr=>simp[hp,hn];refine⟨_,nW _ _,?_⟩;simp[fR];refine⟨_,nW _ _,?_⟩;simp[p8]
 all_goals
  refine⟨_,nW _ _,?_⟩;cases h5:aD b.currency r.currencies.length
  ·simp;exact bad (by simp[vD,h5])
  simp;refine⟨_,nW _ _,?_⟩;cases h6:aD b.city r.cities.length
  ·simp;exact bad (by simp[vD,h6])
  simp;refine⟨_,nW _ _,?_⟩;cases h7:aD b.pay r.cities.length
  ·simp;exact bad (by simp[vD,h7])
  have DD:vD r b=true:=by simp[vD,h5,h6,h7]
  simp;by_cases h8:Em b
  case neg=>
   have MT:((((b.sum<1∨1099511627776<b.sum)∨b.day<0)∨100000<b.day)∨b.rate<0)∨1000<b.rate:=by unfold Em at h8;omega
   rw[if_pos MT];exact .no (fun k=>h8 k.range) (by decide)
  have MT:¬(((((b.sum<1∨1099511627776<b.sum)∨b.day<0)∨100000<b.day)∨b.rate<0)∨1000<b.rate):=by unfold Em at h8;omega
  rw[if_neg MT];by_cases h9:1≤b.parts∧b.parts≤4
  case neg=>
   rw[if_pos (by omega)];exact .no (fun k=>h9 k.parts) (by decide)
  rw[if_neg (by omega)];have Lp:¬MK b→pq (BillOK r b) (.int 2):=fun h=>.no (fun k=>h k.form) (by decide);by_cases g1:0≤b.flags∧b.flags≤7
  case neg=>
   have j0:b.flags<0∨7<b.flags:=by omega
   simp[g1,j0];exact Lp (fun h=>g1 h.1.1)
  have j0:¬(b.flags<0∨7<b.flags):=by omega
  by_cases g2:cT .and .i64 b.flags 4=0∨¬b.payee=-1
  case neg=>
   have uk:¬cT .and .i64 b.flags 4=0∧b.payee=-1:=by simpa using g2
   first
        |exact absurd uk.2 hp
        |(simp[g1,j0,uk]
          exact Lp (fun h=>g2 h.1.2))
  have g3:(b.payee=-1→cT .and .i64 b.flags 4=0):=fun e=>g2.resolve_right (fun h=>h e);simp[g1,j0,hp,g3];refine⟨_,arJ b,?_⟩;cases lf:Ku b
  ·simp;exact Lp (fun h=>by have:=h.2;rw[lf] at this;cases this)
  have hf:=fin ue Dy h8 h9 ⟨⟨g1,g2⟩,lf⟩ DD;simp;by_cases e:b.tenor.kind=4
  ·simp[e] at hf ⊢;exact⟨_,Dx,hf⟩
  ·simp[e] at hf ⊢;exact hf
end Rm
namespace Rm
open Go Go.Proofs Cx
def A0 (f:File)(i part:Int):Bool:=decide (i=0)||decide ((fe f i).part=part)
theorem aar (f:File)(i part:Int)(h:i=0∨(0≤i∧i<f.signs.length)):av T 99 [dv f,.int i,.int part] (.bool (A0 f i part)):=by
 refine .of_tree rfl (lA 85 (by kernel_rfl)) ap3 ?_;unfold A0;by_cases h0:i=0
 ·simp[KC,h0]
 ·obtain⟨h1,h2⟩:=h.resolve_left h0;have h3:i.toNat<f.signs.length:=by omega
  simp[KC,h0,h1,h2,h3,fe]
def F4 (f:File)(i:Int)(kinds:List Int):Bool:=wi (fe f i).for_ 0 (i-1)&&(A0 f (fe f i).for_ (fe f i).part&&hasB kinds (fe f (fe f i).for_).kind)
theorem anp (f:File)(i:Int)(kinds:List Int)(h:0≤i∧i<f.signs.length)(hl:f.signs.length≤100000)(hk:kinds.length≤100):av T 98 [dv f,.int i,ints kinds] (.bool (F4 f i kinds)):=by
 refine .of_tree rfl (lA 84 (by kernel_rfl)) apY ?_;have h1:i.toNat<f.signs.length:=by omega
 have hw:IntKind.i64.wrap (i-1)=i-1:=cn (by omega);have hs:fe f i=f.signs[i.toNat]:=by simp[fe,h1]
 unfold F4;rw[hs];simp[R8,h,h1,hw];refine⟨_,fm _ _ _,?_⟩;cases hb:wi f.signs[i.toNat].for_ 0 (i-1)
 ·simp
 ·have bo:0≤f.signs[i.toNat].for_∧f.signs[i.toNat].for_<f.signs.length:=by
   simp[wi] at hb;omega
  have h2:f.signs[i.toNat].for_.toNat<f.signs.length:=by omega
  have eI:fe f f.signs[i.toNat].for_=f.signs[f.signs[i.toNat].for_.toNat]:=by simp[fe,h2]
  rw[eI];simp;refine⟨_,aar f _ _ (.inr bo),?_⟩;cases bZ:A0 f f.signs[i.toNat].for_ f.signs[i.toNat].part
  ·simp
  simp[bo,h2];exact FD kinds _ (by omega)
def VM (r:Realm)(b:Bill)(s:Sign)(B:List Int→Bool):Bool:=
 if s.kind=0 then((((decide (s.who=b.drawer)&&decide (s.sum=0))&&decide (cT .or .i64 s.flags 1=1))&&decide (s.part=0))&&decide (s.day=b.day))&&decide (s.city=b.city)
 else if s.kind=1 then decide (s.who=b.drawee)&&(wi s.sum 1 1099511627776&&decide (s.flags=0))
 else if s.kind=2 then((wi s.to (-1) ((r.firms.length:Int)-1)&&decide (s.sum=0))&&wi s.flags 0 7)&&decide (cT .and .i64 s.flags 6≠6)
 else if s.kind=3 then(decide (s.sum=0)&&decide (s.flags=0))&&B [0,1,2,4]
 else if s.kind=4 then((wi s.sum 1 1099511627776&&decide (s.flags=0))&&decide (s.who≠b.drawee))&&B [0,2]
 else false
def MF (r:Realm)(b:Bill)(i:Nat)(s:Sign)(B:List Int→Bool):Bool:=
 if ¬(i=0↔s.kind=0)∨(¬s.kind=2∧¬s.to=-1) then false
 else if(¬s.kind=3∧¬s.kind=4)∧¬s.for_=-1 then false
 else VM r b s B
def Hn (r:Realm)(f:File)(i:Nat):Bool:=MF r f.bill i (f.signs.getD i default) (F4 f i)
theorem anr (r:Realm)(hr:Small r)(f:File)(i:Nat)(h:i<f.signs.length)(hl:f.signs.length≤100000):av T 76 [bK r,dv f,.int i] (.bool (Hn r f i)):=by
 refine .of_tree rfl (lA 83 (by kernel_rfl)) ap0 ?_;have oB:=hr.firms;have hw:IntKind.i64.wrap ((r.firms.length:Int)-1)=(r.firms.length:Int)-1:=cn (by omega);have hs:f.signs.getD i default=f.signs[i]:=by simp[h]
 have M5:=fun ks hk=>anp f i ks ⟨by omega,by omega⟩ hl hk;unfold Hn;rw[hs];generalize hB:F4 f i=B at M5 ⊢;generalize hX:MF r f.bill i f.signs[i] B=X;simp[Sa,h];generalize f.signs[i]=s at*;unfold MF at hX;by_cases h1:¬(i=0↔s.kind=0)∨(¬s.kind=2∧¬s.to=-1)
 ·rw[if_pos h1] at hX ⊢;exact hX.symm
 rw[if_neg h1] at hX ⊢;by_cases h2:(¬s.kind=3∧¬s.kind=4)∧¬s.for_=-1
 ·rw[if_pos h2] at hX ⊢;exact hX.symm
 rw[if_neg h2] at hX ⊢;refine⟨_,fm _ _ _,?_⟩;unfold VM at hX;by_cases k0:s.kind=0
 ·rw[if_pos k0] at hX ⊢;rw[←hX];by_cases a:(((s.who=f.bill.drawer∧s.sum=0)∧cT BinOp.or IntKind.i64 s.flags 1=1)∧s.part=0)∧s.day=f.bill.day
  ·simp[a]
  ·rw[if_neg a]
   congr 1
   rw[eq_comm,TR];intro e;simp at e;exact a e.1
 rw[if_neg k0] at hX ⊢;by_cases k1:s.kind=1
 ·rw[if_pos k1] at hX ⊢;rw[←hX];by_cases a:s.who=f.bill.drawee<;>cases wi s.sum 1 1099511627776<;>simp[a]
 rw[if_neg k1] at hX ⊢;by_cases k2:s.kind=2
 ·rw[if_pos k2] at hX ⊢;rw[←hX,hw];refine⟨_,fm _ _ _,?_⟩;cases wi s.to (-1) ((r.firms.length:Int)-1)
  ·simp
  by_cases a:s.sum=0
  case neg=>simp[a]
  simp[a];refine⟨_,fm _ _ _,?_⟩;cases wi s.flags 0 7<;>simp
 rw[if_neg k2] at hX ⊢;by_cases k3:s.kind=3
 ·rw[if_pos k3] at hX ⊢;rw[←hX];by_cases a:s.sum=0∧s.flags=0
  case neg=>
   rw[if_neg a,if_neg a]
   congr 1
   rw[eq_comm,TR];intro e;simp at e;exact a e.1
  rw[if_pos a];refine⟨_,M5 [0,1,2,4] (by decide),?_⟩;simp[a]
 rw[if_neg k3] at hX ⊢;by_cases k4:s.kind=4
 ·rw[if_pos k4] at hX ⊢;rw[←hX];cases wi s.sum 1 1099511627776
  ·simp
  by_cases a:s.flags=0∧¬s.who=f.bill.drawee
  case neg=>
   simp[a]
  simp[a];exact M5 [0,2] (by decide)
 rw[if_neg k4] at hX ⊢;exact hX.symm
end Rm
namespace Rm
open Go Go.Proofs Cx
def ug (f:File)(i:Nat):Int:=if i=0 then f.bill.day else(f.signs.getD (i-1) default).day
def KG (f:File)(i:Nat)(s:Sign):Bool:=(f.signs.take i).any fun x=>(decide (s.kind=1)&&decide (x.kind=1))&&decide (x.part=s.part)
def Fk (r:Realm)(f:File)(i:Nat):Int:=
 let s:=f.signs.getD i default
 if wi s.part 0 (f.bill.parts-1)=false then 15
 else if aD s.who r.firms.length=false∨aD s.city r.cities.length=false then 1
 else if wi s.day (ug f i) 100000=false∨(i=0∧¬s.day=ug f i) then 13
 else if Hn r f i=false then 14
 else if KG f i s=true then 5 else 0
theorem aaq (r:Realm)(hr:Small r)(f:File)(hp:1≤f.bill.parts∧f.bill.parts≤4)(i:Nat)(h:i<f.signs.length)(hl:f.signs.length≤100000):av T 43 [bK r,dv f,.int i] (.int (Fk r f i)):=by
 refine .of_tree rfl (lA 81 (by kernel_rfl)) ap2 ?_;have oB:=hr.firms;have Wz:=hr.cities;have fS:IntKind.i64.wrap ((r.firms.length:Int)-1)=(r.firms.length:Int)-1:=cn (by omega);have fl:IntKind.i64.wrap ((r.cities.length:Int)-1)=(r.cities.length:Int)-1:=cn (by omega);have Ot:IntKind.i64.wrap (f.bill.parts-1)=f.bill.parts-1:=cn (by omega);have hs:f.signs.getD i default=f.signs[i]:=by simp[h]
 generalize hX:Fk r f i=X;unfold Fk at hX;simp only[hs] at hX;simp[Sc,h,fS,fl,Ot];refine⟨_,fm _ _ _,?_⟩;cases a1:wi f.signs[i].part 0 (f.bill.parts-1)
 ·simpa [a1] using hX
 simp[a1] at hX ⊢;refine⟨_,fm _ _ _,?_⟩;rw[zX] at hX;cases a2:wi f.signs[i].who 0 ((r.firms.length:Int)-1)
 ·simpa [a2] using hX
 simp[a2] at hX ⊢;refine⟨_,fm _ _ _,?_⟩;rw[zX] at hX;cases a3:wi f.signs[i].city 0 ((r.cities.length:Int)-1)
 ·simpa [a3] using hX
 simp[a3] at hX ⊢;refine⟨by omega,?_⟩;have Ij:min i f.signs.length=i:=by omega
 refine aU.forRounds i (fun k=>[.int (ug f k),.bool ((f.signs.take k).any fun x=>(decide (f.signs[i].kind=1)&&decide (x.kind=1))&&decide (x.part=f.signs[i].part)),.int k]) (fun _=>[]) ?_ (fun k hk=>?_) ?_
 ·simp[ug]
 ·have hw:=bJ hk (by omega);have cj:k<f.signs.length:=by omega
  have hf:ug f (k+1)=f.signs[k].day:=by simp[ug,cj]
  rw[se cj,List.any_append];generalize ((f.signs.take k).any fun x=>(decide (f.signs[i].kind=1)&&decide (x.kind=1))&&decide (x.part=f.signs[i].part))=A;simp[abi,JY,hk,cj,h,hw,hf,Ij];cases A
  ·by_cases e1:f.signs[i].kind=1<;>by_cases e2:f.signs[k].kind=1<;>simp[e1,e2]
  ·simp
 ·have ht:KG f i f.signs[i]=true↔∃x,x∈List.take i f.signs∧(f.signs[i].kind=1∧x.kind=1)∧x.part=f.signs[i].part:=by simp[KG]
  simp[abi,JY,Ij,h];refine⟨_,fm _ _ _,?_⟩;by_cases a4:wi f.signs[i].day (ug f i) 100000=false∨(i=0∧¬f.signs[i].day=ug f i)
  ·rw[if_pos a4] at hX;rw[if_pos (by simpa using a4)];exact hX
  rw[if_neg a4] at hX;rw[if_neg (by simpa using a4)];refine⟨_,anr r hr f i h hl,?_⟩;cases a5:Hn r f i
  ·simpa [a5] using hX
  simp[a5] at hX;simp only[aeX,if_true];rw[←hX];by_cases a6:KG f i f.signs[i]=true
  ·rw[if_pos a6,if_pos (ht.1 a6)]
  ·rw[if_neg a6,if_neg (fun x=>a6 (ht.2 x))]
def FW (a:Act)(to at_ own:Bool):Bool:=
 if a.kind=0∨a.kind=1∨a.kind=2 then(to&&decide (a.at_=-1))&&decide (a.sum=0)
 else if a.kind=3∨a.kind=4∨a.kind=5 then((to&&decide (a.at_=-1))&&wi a.sum 0 1099511627776)&&wi a.form 0 1
 else if a.kind=6 then(to&&own)&&wi a.sum 1 1099511627776
 else if a.kind=9 then(decide (a.to=-1)&&own)&&decide (a.sum=0)
 else(decide (a.to=-1)&&at_)&&decide (a.sum=0)
def Br (f:File)(a:Act):Bool:=aD a.at_ f.signs.length&&A0 f a.at_ a.part
def PM (f:File)(a:Act):Bool:=Br f a&&decide ((fe f a.at_).who=a.who)
def tV (r:Realm)(f:File)(a:Act):Bool:=
 if aD a.who r.firms.length=false∨(¬a.kind=4∧¬a.form=0) then false else FW a (aD a.to r.firms.length) (Br f a) (PM f a)
theorem ann (r:Realm)(hr:Small r)(f:File)(a:Act)(hl:f.signs.length≤100000):av T 77 [bK r,dv f,jZ a] (.bool (tV r f a)):=by
 refine .of_tree rfl (lA 87 (by kernel_rfl)) apW ?_;have oB:=hr.firms;have fS:IntKind.i64.wrap ((r.firms.length:Int)-1)=(r.firms.length:Int)-1:=cn (by omega);have fl:IntKind.i64.wrap ((f.signs.length:Int)-1)=(f.signs.length:Int)-1:=cn (by omega);generalize hX:tV r f a=X;unfold tV PM Br at hX;simp[R6,fS,fl];refine⟨_,fm _ _ _,?_⟩;rw[←zX];have zS:=fm a.to 0 ((r.firms.length:Int)-1);have DD:=fm a.who 0 ((r.firms.length:Int)-1);rw[←zX] at zS DD;generalize aD a.to r.firms.length=tt at*;generalize aD a.who r.firms.length=ww at*;have fin:∀at_ own:Bool,(if ww=false∨(¬a.kind=4∧¬a.form=0) then false else FW a tt at_ own)=X→
  if ww=false∨(¬a.kind=4∧¬a.form=0) then X=false
  else if a.kind=0∨a.kind=1∨a.kind=2 then(if tt=true∧a.at_=-1 then D.bool (decide (a.sum=0)) else D.bool false)=D.bool X
  else if a.kind=3∨a.kind=5∨a.kind=4 then
        if tt=true∧a.at_=-1 then
         ∃d,av (fM tab ext) 44 [D.int a.sum,D.int 0,D.int 1099511627776] d∧
          if(tt=true∧a.at_=-1)∧d.b=true then
             ∃BS,av (fM tab ext) 44 [D.int a.form,D.int 0,D.int 1] BS∧(if(tt=true∧a.at_=-1)∧d.b=true then BS else D.bool false)=D.bool X
          else(if(tt=true∧a.at_=-1)∧d.b=true then D.none else D.bool false)=D.bool X
        else D.bool false=D.bool X
  else if a.kind=6 then
        if tt=true∧own=true then ∃BS,av (fM tab ext) 44 [D.int a.sum,D.int 1,D.int 1099511627776] BS∧(if tt=true∧own=true then BS else D.bool false)=D.bool X
        else(if tt=true∧own=true then D.none else D.bool false)=D.bool X
  else if a.kind=9 then(if a.to=-1∧own=true then D.bool (decide (a.sum=0)) else D.bool false)=D.bool X
  else(if a.to=-1∧at_=true then D.bool (decide (a.sum=0)) else D.bool false)=D.bool X:=by
  intro at_ own hX;by_cases p:ww=false∨(¬a.kind=4∧¬a.form=0)
  ·rw[if_pos p] at hX ⊢;exact hX.symm
  rw[if_neg p] at hX ⊢;unfold FW at hX;by_cases k0:a.kind=0∨a.kind=1∨a.kind=2
  ·rw[if_pos k0] at hX ⊢;rw[←hX];by_cases e:tt=true∧a.at_=-1
   ·simp[e]
   ·rw[if_neg e];cases tt<;>simp at e ⊢;simp[e]
  rw[if_neg k0] at hX ⊢;by_cases k3:a.kind=3∨a.kind=4∨a.kind=5
  ·rw[if_pos k3] at hX;rw[if_pos (by omega),←hX];by_cases e:tt=true∧a.at_=-1
   ·rw[if_pos e];refine⟨_,fm _ _ _,?_⟩;cases wi a.sum 0 1099511627776
    ·simp
    ·simp[e];exact fm _ _ _
   ·rw[if_neg e];cases tt<;>simp at e ⊢;simp[e]
  rw[if_neg k3] at hX;rw[if_neg (by omega)];by_cases k6:a.kind=6
  ·rw[if_pos k6] at hX ⊢;rw[←hX];by_cases e:tt=true∧own=true
   ·rw[if_pos e];refine⟨_,fm _ _ _,?_⟩;simp[e]
   ·rw[if_neg e,if_neg e];cases tt<;>cases own<;>simp at e ⊢
  rw[if_neg k6] at hX ⊢;by_cases k9:a.kind=9
  ·rw[if_pos k9] at hX ⊢;rw[←hX];cases own<;>by_cases e:a.to=-1<;>simp[e]
  rw[if_neg k9] at hX ⊢;rw[←hX];cases at_<;>by_cases e:a.to=-1<;>simp[e]
 cases h1:aD a.at_ f.signs.length
 ·have hf:=fin false false (by simpa [h1] using hX);simp at hf ⊢;refine⟨_,zS,_,DD,?_⟩;simpa using hf
 have dC:0≤a.at_∧a.at_<f.signs.length:=by simpa [aD] using h1
 have h2:a.at_.toNat<f.signs.length:=by omega
 have hs:fe f a.at_=f.signs[a.at_.toNat]:=by simp[fe,h2]
 simp[dC];refine⟨_,aar f _ _ (.inr dC),_,zS,_,DD,?_⟩;rw[h1,hs] at hX;have hf:=fin _ _ hX;cases h3:A0 f a.at_ a.part
 ·rw[h3] at hf;simpa using hf
 ·rw[h3] at hf;simpa [h2] using hf
theorem I6 (a b:Int):(if a<b then b else a)=max a b:=by split<;>omega
theorem O5 (a b:Int):(if a<b then D.int b else D.int a)=D.int (max a b):=by
 rw[←I6];split<;>rfl
def ON (f:File)(i:Nat)(a:Act):Int:=
 let x:=if a.at_=-1 then f.bill.day else max f.bill.day (fe f a.at_).day
 if i=0 then x else max x (f.acts.getD (i-1) default).day
def tW (r:Realm)(f:File)(i:Nat):Int:=
 let a:=f.acts.getD i default
 if wi a.part 0 (f.bill.parts-1)=false then 15
 else if aD a.city r.cities.length=false∨wi a.kind 0 9=false then 1
 else if tV r f a=false then 14
 else if wi a.day (ON f i a) 100000=false then 13 else 0
theorem Uu {r:Realm}{f:File}{a:Act}(h:tV r f a=true)(hn:¬a.at_=-1):0≤a.at_∧a.at_<f.signs.length:=by
 unfold tV at h;split at h
 ·cases h
 have key:Br f a=true→0≤a.at_∧a.at_<f.signs.length:=fun e=>by
  unfold Br at e;simp only[aj] at e;simpa [aD] using e.1
 unfold FW PM at h
 repeat' split at h
 all_goals simp only[aj,decide_eq_true_eq] at h
 ·exact absurd h.1.2 hn
 ·exact absurd h.1.1.2 hn
 ·exact key h.1.2.1
 ·exact key h.1.2.1
 ·exact key h.1.2
theorem ano (r:Realm)(hr:Small r)(f:File)(hp:1≤f.bill.parts∧f.bill.parts≤4)(hl:f.signs.length≤100000)(CZ:f.acts.length≤100000):av T 45 [bK r,dv f] (.int (fO f.acts.length (tW r f))):=by
 refine .of_tree rfl (lA 86 (by kernel_rfl)) apX ?_;have Wz:=hr.cities;have fl:IntKind.i64.wrap ((r.cities.length:Int)-1)=(r.cities.length:Int)-1:=cn (by omega);have Ot:IntKind.i64.wrap (f.bill.parts-1)=f.bill.parts-1:=cn (by omega);simp[R7];refine xJ f.acts.length (tW r f) (fun k=>[.int 0,.int k]) (fun _=>[]) ?_ (fun k hk ho=>?_) (fun k hk ho hb=>?_) (fun hj=>?_)
 ·simp
 case' refine_2=>have hb:tW r f k=tW r f k:=rfl
 case' refine_3=>rw[hb]
 case refine_4=>simp[abg,JW,hj]
 all_goals
  have hw:=bJ hk (by omega);have hs:f.acts.getD k default=f.acts[k]:=by simp[hk]
  clear hb;generalize hX:tW r f k=X at*;unfold tW at hX;simp only[hs] at hX;simp[abg,JW,hk,fl,Ot,hw];refine⟨_,fm _ _ _,?_⟩;cases a1:wi f.acts[k].part 0 (f.bill.parts-1)
  ·simp[a1] at hX ⊢
   first|exact hX|(exfalso;omega)
  simp[a1] at hX ⊢;refine⟨_,fm _ _ _,?_⟩;rw[zX] at hX;cases a2:wi f.acts[k].city 0 ((r.cities.length:Int)-1)
  ·simp[a2] at hX ⊢
   first|exact hX|(exfalso;omega)
  simp[a2] at hX ⊢;refine⟨_,fm _ _ _,?_⟩;cases a3:wi f.acts[k].kind 0 9
  ·simp[a3] at hX ⊢
   first|exact hX|(exfalso;omega)
  simp[a3] at hX ⊢;refine⟨_,ann r hr f f.acts[k] hl,?_⟩;cases a4:tV r f f.acts[k]
  ·simp[a4] at hX ⊢
   first|exact hX|(exfalso;omega)
  simp[a4] at hX ⊢;unfold ON at hX;by_cases k0:k=0
  ·subst k0;by_cases e1:f.acts[0].at_=-1
   ·simp[e1] at hX;simp[e1];refine⟨_,fm _ _ _,?_⟩;split at hX
    ·rename_i e;simp[e]
     first|exact hX|(exfalso;omega)
    ·rename_i e
     first|(exfalso;omega)|simp[e]
   ·obtain⟨h5,h6⟩:=Uu a4 e1;have h7:f.acts[0].at_.toNat<f.signs.length:=by omega
    have h8:fe f f.acts[0].at_=f.signs[f.acts[0].at_.toNat]:=by simp[fe,h7]
    simp[e1,h8] at hX;simp[e1,h5,h6,h7,O5,I6];refine⟨_,fm _ _ _,?_⟩;split at hX
    ·rename_i e;simp[e]
     first|exact hX|(exfalso;omega)
    ·rename_i e
     first|(exfalso;omega)|simp[e]
  ·have bQ:IntKind.i64.wrap ((k:Int)-1)=(k:Int)-1:=cn (by omega);have bx:((k:Int)-1).toNat=k-1:=by omega
   have ic:k-1<f.acts.length:=by omega
   have mK:0<k:=by omega
   by_cases e1:f.acts[k].at_=-1
   ·simp[k0,e1,ic] at hX;simp[e1,mK,bQ,bx,ic,O5,I6];refine⟨by omega,_,fm _ _ _,?_⟩;split at hX
    ·rename_i e;simp[e]
     first|exact hX|(exfalso;omega)
    ·rename_i e
     first|(exfalso;omega)|simp[e]
   ·obtain⟨h5,h6⟩:=Uu a4 e1;have h7:f.acts[k].at_.toNat<f.signs.length:=by omega
    have h8:fe f f.acts[k].at_=f.signs[f.acts[k].at_.toNat]:=by simp[fe,h7]
    simp[k0,e1,ic,h8] at hX;simp[e1,mK,bQ,bx,ic,h5,h6,h7,O5,I6];refine⟨by omega,_,fm _ _ _,?_⟩;split at hX
    ·rename_i e;simp[e]
     first|exact hX|(exfalso;omega)
    ·rename_i e
     first|(exfalso;omega)|simp[e]
end Rm
namespace Rm
open Go Go.Proofs Cx
def kX (a b:Int):Int:=if a<b then-1 else if b<a then 1 else 0
theorem XZ (a:Int):av T 70 [.int a] (.bool false):=by
 refine .of_tree rfl (lA 90 (by kernel_rfl)) apE ?_;simp[RP]
theorem FC (a b:Int):av T 38 [.int a,.int b] (.int (kX a b)):=by
 refine .of_tree rfl (lA 89 (by kernel_rfl)) apC ?_;simp[RN];refine⟨_,XZ a,_,XZ b,?_⟩;unfold kX;by_cases h1:a<b
 ·simp[h1]
 by_cases h2:b<a<;>simp[h1,h2]
theorem Uk (l:List Int)(hl:l.length≤100000):av T 37 [ints l] (.int (fO l.length fun k=>l.getD k 0)):=by
 refine .of_tree rfl (lA 91 (by kernel_rfl)) apD ?_;simp[RO];refine xJ l.length (fun k=>l.getD k 0) (fun k=>[.int 0,.int k]) (fun _=>[]) ?_ (fun k hk ho=>?_) (fun k hk ho hb=>?_) (fun hj=>?_)
 ·simp
 ·have hw:=bJ hk (by omega);have hx:l[k]=0:=by simpa [hk] using ho
  simp[Qw,Er,hk,hx,hw]
 ·have hx:¬l[k]=0:=by simpa [hk] using ho
  simp only[aH] at hb ⊢;rw[hb];simp[Qw,Er,hk,hx]
 ·simp only[aH] at hj ⊢;rw[hj];simp[Qw,Er]
theorem or2 (a b:Int):(fO 2 fun k=>[a,b].getD k 0)=if a=0 then b else a:=by
 have e:List.range 2=[0,1]:=rfl;unfold fO;rw[e];by_cases ha:a=0<;>by_cases hb:b=0<;>simp[ha,hb]
def ct (x y:Fact):Prop:=x.at_<y.at_∨(x.at_=y.at_∧x.kind<y.kind)
instance (x y:Fact):Decidable (ct x y):=by unfold ct;infer_instance
theorem adg (x y:Fact):0≤(if kX x.at_ y.at_=0 then kX x.kind y.kind else kX x.at_ y.at_)↔¬ct x y:=by
 unfold kX ct
 repeat' split
 all_goals omega
def qY (f:File)(i:Nat):Int:=
 let x:=f.facts.getD i default
 if wi x.kind 0 4=false then 1 else if aD x.at_ f.signs.length=false then 1 else if wi x.n 0 1=false then 1
 else if i=0 then 0 else if ct (f.facts.getD (i-1) default) x then 0 else 5
theorem anq (f:File)(hl:f.signs.length≤100000)(hlf:f.facts.length≤100000):av T 46 [dv f] (.int (fO f.facts.length (qY f))):=by
 refine .of_tree rfl (lA 88 (by kernel_rfl)) apZ ?_;have fl:IntKind.i64.wrap ((f.signs.length:Int)-1)=(f.signs.length:Int)-1:=cn (by omega);simp[R9];refine xJ f.facts.length (qY f) (fun k=>[.int 0,.int k]) (fun _=>[]) ?_ (fun k hk ho=>?_) (fun k hk ho hb=>?_) (fun hj=>?_)
 ·simp
 case' refine_2=>have hb:qY f k=qY f k:=rfl
 case' refine_3=>rw[hb]
 case refine_4=>simp[abh,JX,hj]
 all_goals
  have hw:=bJ hk (by omega);have hs:f.facts.getD k default=f.facts[k]:=by simp[hk]
  clear hb;generalize hX:qY f k=X at*;unfold qY at hX;simp only[hs] at hX;simp[abh,JX,hk,fl,hw];refine⟨_,fm _ _ _,?_⟩;cases a1:wi f.facts[k].kind 0 4
  ·simp[a1] at hX ⊢
   first|exact hX|(exfalso;omega)
  simp[a1] at hX ⊢;refine⟨_,fm _ _ _,?_⟩;rw[zX] at hX;cases a2:wi f.facts[k].at_ 0 ((f.signs.length:Int)-1)
  ·simp[a2] at hX ⊢
   first|exact hX|(exfalso;omega)
  simp[a2] at hX ⊢;refine⟨_,fm _ _ _,?_⟩;cases a3:wi f.facts[k].n 0 1
  ·simp[a3] at hX ⊢
   first|exact hX|(exfalso;omega)
  simp[a3] at hX ⊢;by_cases k0:k=0
  ·subst k0;simp at hX ⊢
   first|(exfalso;omega)|done
  ·have bQ:IntKind.i64.wrap ((k:Int)-1)=(k:Int)-1:=cn (by omega);have bx:((k:Int)-1).toNat=k-1:=by omega
   have ic:k-1<f.facts.length:=by omega
   simp[k0,ic] at hX;simp[k0,bQ,bx,ic];refine⟨by omega,_,FC _ _,_,FC _ _,?_⟩;have ho:=Uk [kX f.facts[k-1].at_ f.facts[k].at_,kX f.facts[k-1].kind f.facts[k].kind] (by simp);simp only[pv,Bg] at ho;rw[or2] at ho;refine⟨_,ho,?_⟩;have ha:=adg f.facts[k-1] f.facts[k];generalize (if kX f.facts[k-1].at_ f.facts[k].at_=0 then kX f.facts[k-1].kind f.facts[k].kind else kX f.facts[k-1].at_ f.facts[k].at_)=n at*;clear ho;by_cases e:ct f.facts[k-1] f.facts[k]
   ·have hn:¬0≤n:=fun h=>ha.1 h e;simp[e] at hX;simp[hn]
    first|done|(exfalso;omega)
   ·have hn:0≤n:=ha.2 e;simp[e] at hX;simp[hn]
    first|exact hX|(exfalso;omega)
def yg (f:File)(i:Nat):Int:=
 let x:=f.alters.getD i default
 if wi x.at_ ((if i=0 then 0 else(f.alters.getD (i-1) default).at_)+1) f.signs.length=false then 1 else if wi x.sum 1 1099511627776=false then 3 else 0
structure PaperOK (r:Realm) (f:File):Prop where
 full:(f.signs.length≤40∧f.alters.length≤4)∧f.acts.length≤100∧f.facts.length≤200
 bill:BillOK r f.bill
 ne:f.signs≠[]
 signs:fO f.signs.length (Fk r f)=0
 alters:fO f.alters.length (yg f)=0
 acts:fO f.acts.length (tW r f)=0
 facts:fO f.facts.length (qY f)=0
theorem aap (r:Realm)(hs:Small r)(f:File)(MS:f.OK):∃d,av T 21 [bK r,dv f] d∧pq (PaperOK r f) d:=by
 refine av.ex_of_tree rfl adw apV ?_;simp[R5];by_cases hf:(f.signs.length≤40∧f.alters.length≤4)∧f.acts.length≤100∧f.facts.length≤200
 case neg=>
  rw[if_pos (by omega)];exact .no (fun h=>hf h.full) (by decide)
 rw[if_neg (by omega)];obtain⟨d,hb,e,rfl,he⟩:=arH r hs f.bill;refine⟨_,hb,?_⟩;by_cases e0:e=0
 case neg=>
  simp[e0];exact .no (fun h=>e0 (he.2 h.bill)) e0
 have HQ:=he.1 e0;simp[e0];by_cases ay:f.signs=[]
 ·simp[ay];exact .no (fun h=>h.ne ay) (by decide)
 simp[ay];refine xJ f.signs.length (Fk r f) (fun k=>[.int 0,.int k]) (fun _=>[]) ?_ (fun k hk ho=>?_) (fun k hk ho hb=>?_) (fun hj=>?_)
 ·simp
 ·have hw:=bJ hk (by omega);simp[Qz,Et,hk,hw];refine⟨_,aaq r hs f HQ.parts k hk (by omega),?_⟩;simp[ho]
 ·simp[Qz,Et,hk];refine⟨_,aaq r hs f HQ.parts k hk (by omega),?_⟩;simp[ho];exact .no (fun h=>ho (by rw[←hb];exact h.signs)) ho
 simp[Qz,Et];have ls:∀k,k<f.alters.length→(∀j,j<k→yg f j=0)→IntKind.i64.wrap ((if k=0 then 0 else(f.alters.getD (k-1) default).at_)+1)=(if k=0 then 0 else(f.alters.getD (k-1) default).at_)+1:=by
  intro k hk hj;refine cn ?_;by_cases k0:k=0
  ·rw[if_pos k0];omega
  ·rw[if_neg k0];have h1:=hj (k-1) (by omega);have bQ:k-1<f.alters.length:=by omega
   have h2:=(MS.2.2.1.2 _ (dJ bQ)).1;have h3:f.alters.getD (k-1) default=f.alters[k-1]:=by simp[bQ]
   unfold yg at h1;rw[h3] at h1 ⊢;simp only at h1;generalize (if k-1=0 then(0:Int) else(f.alters.getD (k-1-1) default).at_)=L0 at h1;split at h1
   ·cases h1
   ·rename_i hh;simp[wi] at hh;unfold aW at h2;omega
 refine aU.scan f.alters.length (fun k=>yg f k=0) (fun k=>[.int 0,.int (if k=0 then 0 else(f.alters.getD (k-1) default).at_),.int k]) (fun _=>[]) ?_ (fun k hk wH ho=>?_) (fun k hk wH ho=>?_) (fun mJ=>?_)
 ·simp
 ·have hw:=bJ hk (by omega);have hl:=ls k hk wH;generalize hL:(if k=0 then 0 else(f.alters.getD (k-1) default).at_)=L at*;have hs:f.alters.getD k default=f.alters[k]:=by simp[hk]
  unfold yg at ho;simp only[hs,hL] at ho;simp[QA,Eu,hk,hl];refine⟨_,fm _ _ _,?_⟩;cases a1:wi f.alters[k].at_ (L+1) f.signs.length
  ·simp[a1] at ho
  simp[a1] at ho ⊢;refine⟨_,fm _ _ _,?_⟩;simp[ho,hw]
 ·have hl:=ls k hk wH;have CR:=MC hk wH ho;generalize hL:(if k=0 then 0 else(f.alters.getD (k-1) default).at_)=L at*;have hs:f.alters.getD k default=f.alters[k]:=by simp[hk]
  have bad:∀e:Int,e≠0→pq (PaperOK r f) (.int e):=fun e h=>.no (fun h=>ho (by rw[←CR];exact h.alters)) h;unfold yg at ho;simp only[hs,hL] at ho;simp[QA,Eu,hk,hl];refine⟨_,fm _ _ _,?_⟩;cases a1:wi f.alters[k].at_ (L+1) f.signs.length
  ·simp;exact bad 1 (by decide)
  simp[a1] at ho ⊢;refine⟨_,fm _ _ _,?_⟩;simp[ho];exact bad 3 (by decide)
 have mJ:=ME mJ;simp[QA,Eu];refine⟨_,ano r hs f HQ.parts (by omega) (by omega),?_⟩;by_cases e3:fO f.acts.length (tW r f)=0
 case neg=>
  simp[e3];exact .no (fun h=>e3 h.acts) e3
 simp[e3];refine⟨_,anq f (by omega) (by omega),?_⟩;exact⟨_,rfl,fun h=>⟨hf,HQ,ay,hj,mJ,e3,h⟩,fun h=>h.facts⟩
end Rm
namespace Rm
open Go Go.Proofs Cx
end Rm
namespace Rm
open Go Go.Proofs Cx
end Rm
namespace Rm
open Go Go.Proofs Cx
structure Fw (r:Realm) (f:File) (i:Nat) (a:Act):Prop where
 part:0≤a.part∧a.part≤f.bill.parts-1
 city:0≤a.city∧a.city<r.cities.length
 kind:0≤a.kind∧a.kind≤9
 fits:tV r f a=true
 day:ON f i a≤a.day∧a.day≤100000
end Rm
namespace Rm
open Go Go.Proofs Cx
def qI (n:Nat)(x:Fact):Prop:=wi x.kind 0 4=true∧aD x.at_ n=true∧wi x.n 0 1=true
structure FactsOK (n:Nat) (l:List Fact):Prop where
 each:∀x,x∈l→qI n x
 sorted:l.Pairwise ct
theorem FY {x y z:Fact}(h1:ct x y)(h2:ct y z):ct x z:=by unfold ct at*;omega
theorem anm {l:List Fact}(h:∀i (h1:i+1<l.length),ct (l[i]'(by omega)) l[i+1]):l.Pairwise ct:=by
 rw[FN];intro i j hi hj cD;obtain⟨d,rfl⟩:∃d,j=i+1+d:=⟨j-i-1,by omega⟩
 clear cD
 induction d with
 |zero=>exact h i hj
 |succ d ih=>exact FY (ih (by omega)) (h (i+1+d) hj)
theorem Mu {f:File}{i:Nat}(hi:i<f.facts.length):qY f i=0↔(qI f.signs.length f.facts[i]∧(i=0∨ct (f.facts.getD (i-1) default) f.facts[i])):=by
 have hs:f.facts.getD i default=f.facts[i]:=by simp[hi]
 unfold qY qI;simp only[hs];constructor
 ·intro h;split at h
  ·cases h
  rename_i a1;split at h
  ·cases h
  rename_i a2;split at h
  ·cases h
  rename_i a3;refine⟨⟨by simpa using a1,by simpa using a2,by simpa using a3⟩,?_⟩;split at h
  ·rename_i a4;exact .inl a4
  split at h
  ·rename_i a4;exact .inr a4
  ·cases h
 ·rintro⟨⟨a1,a2,a3⟩,h⟩;rw[a1,a2,a3];simp only[Bool.true_eq_false,if_false];rcases h with h|h
  ·rw[if_pos h]
  ·rw[if_pos h];split<;>rfl
theorem Mv (f:File):fO f.facts.length (qY f)=0↔FactsOK f.signs.length f.facts:=by
 rw[MD];constructor
 ·intro h;refine⟨fun x hx=>?_,anm fun i h1=>?_⟩
  ·obtain⟨i,hi,rfl⟩:=gZ hx;exact((Mu hi).1 (h i hi)).1
  ·have:=((Mu h1).1 (h (i+1) h1)).2;rcases this with e|e
   ·cases e
   ·have hi:i<f.facts.length:=by omega
    simpa [hi] using e
 ·intro h i hi;refine(Mu hi).2 ⟨h.each _ (dJ hi),?_⟩;by_cases e:i=0
  ·exact .inl e
  ·right;have cw:i-1<f.facts.length:=by omega
   have:=FN.1 h.sorted (i-1) i cw hi (by omega);simpa [cw] using this
theorem xd (x y:Fact):ma x y=true↔ct y x:=by unfold ma ct;simp
theorem pM (x y:Fact):iM x y=true↔ct x y:=by
 unfold iM ct;simp;constructor<;>rintro(h|h)
 ·exact .inl h
 ·exact .inr ⟨h.1.symm,h.2⟩
 ·exact .inl h
 ·exact .inr ⟨h.1.symm,h.2⟩
theorem FactsOK.with_ {n:Nat}{l:List Fact}(h:FactsOK n l){x:Fact}(hx:qI n x):FactsOK n (jV l x):=by
 unfold jV;refine⟨fun y hy=>?_,?_⟩
 ·simp only[cR,cS,lL] at hy;rcases hy with(hy|rfl)|hy
  ·exact h.each y hy.1
  ·exact hx
  ·exact h.each y hy.1
 ·rw[ja,FM];refine⟨h.sorted.filter _,?_,fun a ha b hb=>?_⟩
  ·rw[Ue,vO];exact⟨fun b hb=>(pM x b).1 (cS.1 hb).2,h.sorted.filter _⟩
  ·have h1:=(xd x a).1 (cS.1 ha).2;rcases cR.1 hb with hb|hb
   ·rw[lL.1 hb];exact h1
   ·exact FY h1 ((pM x b).1 (cS.1 hb).2)
theorem qI.ok {n:Nat}{x:Fact}(h:qI n x)(hn:n≤100000):x.OK:=by
 obtain⟨h1,h2,h3⟩:=h;simp[wi,aD] at h1 h2 h3;unfold Fact.OK aW;omega
end Rm
namespace Rm
open Go Go.Proofs Cx
abbrev amr:Nat:=16
theorem ac0 (x:Fact)(k a:Int):av T 32 [kq x,.ref (.int k),.ref (.int a)] (.bool (eG k a x)):=by
 refine .of_tree rfl (lA 99 (by kernel_rfl)) apx ?_;unfold eG;by_cases h1:x.kind=k<;>by_cases h2:x.at_=a<;>simp[RJ,h1,h2]
def fx (k a n:Int):Fact:=⟨k,a,if n=0 then 0 else 1⟩
theorem ac1 (x y:Fact):av T 36 [kq y,.ref (.int x.at_),.ref (.int x.kind)] (.bool (iM x y)):=by
 refine .of_tree rfl (lA 100 (by kernel_rfl)) apy ?_;simp[RK];refine⟨_,FC y.at_ x.at_,_,FC y.kind x.kind,_,Uk [kX y.at_ x.at_,kX y.kind x.kind] (by simp),?_⟩;rw[show([kX y.at_ x.at_,kX y.kind x.kind]:List Int).length=2 from rfl,or2];simp;unfold iM kX;by_cases h1:y.at_<x.at_
 ·have h2:¬x.at_<y.at_:=by omega
  have h3:¬y.at_=x.at_:=by omega
  simp[h1,h2,h3]
 by_cases h2:x.at_<y.at_
 ·simp[h1,h2]
 have h3:y.at_=x.at_:=by omega
 by_cases h4:y.kind<x.kind
 ·have h5:¬x.kind<y.kind:=by omega
  simp[h3,h4,h5]
 by_cases h5:x.kind<y.kind<;>simp[h3,h4,h5]
theorem TW (l:List Fact)(f:Nat)(caps:List D)(g:Nat→Bool)(hg:∀k (hk:k<l.length),av T f (kq l[k]::caps) (.bool (g k)))(hl:l.length≤4294967296):
 av T 34 [facts l,.clo f caps] (.int (kE l.length g)):=by
 refine .of_tree rfl (lA 98 (by kernel_rfl)) aqH ?_;simp[SU];refine .scan l.length (fun k=>g k=false) (fun k=>[.int 0,.int k]) (fun _=>[]) ?_ (fun k hk hj ho=>?_) (fun k hk hj ho=>?_) (fun hj=>?_)
 ·simp
 ·have hw:=bJ hk hl;simp[QZ,ET,hk,hw];refine⟨_,_,⟨rfl,rfl⟩,_,hg k hk,?_⟩;simp[ho,hw]
 ·have he:=IK hk (by simpa using ho) hj;simp[QZ,ET,hk,he];refine⟨_,_,⟨rfl,rfl⟩,_,hg k hk,?_⟩;simp[ho]
 ·have he:=DJ hj;simp[QZ,ET,he]
def dH (f:File)(x:Fact):File:={f with facts:=jV f.facts x}
theorem ab4 {α:Type}{p:α→Bool}{l:List α}(i:Nat)(h1:∀j (hj:j<l.length),j<i→p l[j]=true)(h2:∀j (hj:j<l.length),i≤j→p l[j]=false):l.filter p=l.take i:=by
 have e:l.filter p=(l.take i++l.drop i).filter p:=by rw[tQ]
 rw[e,FH,KU.2,KT.2,lK]
 ·intro y hy hp;obtain⟨j,hj,rfl⟩:=gZ hy;have bA:i+j<l.length:=by simp at hj;omega
  rw[List.getElem_drop,h2 (i+j) bA (by omega)] at hp;cases hp
 ·intro y hy;obtain⟨j,hj,rfl⟩:=gZ hy;have bA:j<l.length∧j<i:=by simp at hj;omega
  rw[T9];exact h1 j bA.1 bA.2
theorem ab5 {α:Type}{p:α→Bool}{l:List α}(i:Nat)(h1:∀j (hj:j<l.length),j<i→p l[j]=false)(h2:∀j (hj:j<l.length),i≤j→p l[j]=true):l.filter p=l.drop i:=by
 have e:l.filter p=(l.take i++l.drop i).filter p:=by rw[tQ]
 rw[e,FH,KT.2,KU.2,sd]
 ·intro y hy;obtain⟨j,hj,rfl⟩:=gZ hy;have bA:i+j<l.length:=by simp at hj;omega
  rw[List.getElem_drop];exact h2 (i+j) bA (by omega)
 ·intro y hy hp;obtain⟨j,hj,rfl⟩:=gZ hy;have bA:j<l.length∧j<i:=by simp at hj;omega
  rw[T9,h1 j bA.1 bA.2] at hp;cases hp
theorem O9 {x y:Fact}(h:ct x y):¬ct y x:=by unfold ct at*;omega
theorem adh {x y:Fact}(h1:¬ct x y)(h2:¬ct y x):y.kind=x.kind∧y.at_=x.at_:=by unfold ct at*;omega
theorem arA {l:List Fact}(hs:l.Pairwise ct)(x:Fact)(i:Nat)(hi:i<l.length)(h:l[i].kind=x.kind∧l[i].at_=x.at_):jV l x=l.take i++[x]++l.drop (i+1):=by
 have hp:=FN.1 hs;have c1:∀y,ct y l[i]↔ct y x:=fun y=>by unfold ct;rw[h.1,h.2]
 have c2:∀y,ct l[i] y↔ct x y:=fun y=>by unfold ct;rw[h.1,h.2]
 have no:¬ct l[i] x:=fun e=>by unfold ct at e;omega
 have no':¬ct x l[i]:=fun e=>by unfold ct at e;omega
 have e1:l.filter (ma x)=l.take i:=ab4 i (fun j hj eX=>(xd x _).2 ((c1 _).1 (hp j i hj hi eX))) (fun j hj cD=>by
  cases e:ma x l[j] with
  |false=>rfl
  |true=>
   have e:=(xd x _).1 e;rcases Ug cD with h'|rfl
   ·exact absurd ((c1 _).2 e) (O9 (hp i j hi hj h'))
   ·exact absurd e no)
 have e2:l.filter (iM x)=l.drop (i+1):=ab5 (i+1) (fun j hj cD=>by
  cases e:iM x l[j] with
  |false=>rfl
  |true=>
   have e:=(pM x _).1 e;rcases Ug (Nat.le_of_lt_succ cD) with h'|rfl
   ·exact absurd ((c2 _).2 e) (O9 (hp j i hj hi h'))
   ·exact absurd e no') (fun j hj eX=>(pM x _).2 ((c2 _).1 (hp i j hi hj (by omega))))
 unfold jV;rw[e1,e2]
theorem acu {l:List Fact}(hs:l.Pairwise ct)(x:Fact)(j:Nat)(hj:j≤l.length)(hn:∀y,y∈l→¬(y.kind=x.kind∧y.at_=x.at_))(h1:∀i (hi:i<l.length),i<j→iM x l[i]=false)(h2:∀(hi:j<l.length),iM x l[j]=true):
 jV l x=l.take j++[x]++l.drop j:=by
 have hp:=FN.1 hs
 have g2:∀i (hi:i<l.length),j≤i→iM x l[i]=true:=fun i hi eX=>by
  have fD:j<l.length:=by omega
  rcases Ug eX with h'|rfl
  ·exact(pM x _).2 (FY ((pM x _).1 (h2 fD)) (hp j i fD hi h'))
  ·exact h2 hi
 have e1:l.filter (ma x)=l.take j:=ab4 j (fun i hi cD=>by
  have hg:=h1 i hi cD;refine(xd x _).2 ?_;refine vK fun e=>?_;have fC:¬ct x l[i]:=fun e'=>by rw[(pM x _).2 e'] at hg;cases hg
  exact hn _ (dJ hi) (adh fC e)) (fun i hi eX=>by
  cases e:ma x l[i] with
  |false=>rfl
  |true=>exact absurd ((xd x _).1 e) (O9 ((pM x _).1 (g2 i hi eX))))
 have e2:l.filter (iM x)=l.drop j:=ab5 j h1 g2;unfold jV;rw[e1,e2]
theorem Kj (f:File)(k a n:Int):Fh [dv f,.int k,.int a,.int n]=dv (dH f (fx k a n)):=by
 have e:(facts (jV f.facts (fx k a n)):D)=.list ((f.facts.map kq).filter (fun y=>decide ((y.c 1).i<a)||(decide ((y.c 1).i=a)&&decide ((y.c 0).i<k)))++[vq k a n]++(f.facts.map kq).filter (fun y=>decide (a<(y.c 1).i)||(decide ((y.c 1).i=a)&&decide (k<(y.c 0).i)))):=by
  unfold facts jV;rw[List.filter_map,List.filter_map,oa,oa];rfl
 show D.agg _=D.agg _;rw[show facts (dH f (fx k a n)).facts=_ from e];rfl
theorem Kl {f:File}(hs:f.facts.Pairwise ct)(hl:f.facts.length≤100000)(k a n:Int):av T amr [dv f,.int k,.int a,.int n] (dv (dH f (fx k a n))):=by
 have hI:∀l:List Fact,l.length≤100000→av T 34 [facts l,.clo 32 [.ref (.int k),.ref (.int a)]] (.int (kE l.length fun i=>eG k a (l.getD i default))):=fun l hl=>
  TW l _ _ _ (fun i hi=>by simpa [hi] using ac0 l[i] k a) (by omega)
 have hJ:av T 34 [facts f.facts,.clo 36 [.ref (.int a),.ref (.int k)]] (.int (kE f.facts.length fun i=>iM (fx k a n) (f.facts.getD i default))):=
  TW f.facts _ _ _ (fun i hi=>by have:=ac1 (fx k a n) f.facts[i];simpa [hi,fx] using this) (by omega)
 refine av.of_ext (g:=AU) rfl ?_;obtain⟨n0,h0⟩:=hI f.facts hl;obtain⟨n2,h2⟩:=hJ;have eW:(dv f).cells[18]?=some (.list (f.facts.map kq)):=rfl;have hp:=FN.1 hs
 have key:∀m,Un (T m) [dv f,.int k,.int a,.int n] (Fh [dv f,.int k,.int a,.int n])→AU (T m) [dv f,.int k,.int a,.int n]=some (dv (dH f (fx k a n))):=fun m h=>by
  unfold AU;rw[if_pos h,Kj]
 rcases w5 f.facts.length (fun i=>eG k a (f.facts.getD i default)) with⟨e1,e2⟩|⟨i,hi,e1,e2,e3⟩
 ·rw[e1] at h0
  have hn:∀y,y∈f.facts→¬(y.kind=(fx k a n).kind∧y.at_=(fx k a n).at_):=fun y hy e=>by
   obtain⟨i,hi,rfl⟩:=gZ hy;have:=e2 i hi;simp[hi,eG] at this;exact this e.1 e.2
  refine⟨max n0 n2,fun m hm=>key m ?_⟩;refine⟨_,k,a,n,f.facts.map kq,rfl,eW,by rw[fL];omega,.inr ⟨h0 m (by omega),?_⟩⟩;rw[fL];rcases w5 f.facts.length (fun i=>iM (fx k a n) (f.facts.getD i default)) with⟨g1,g2⟩|⟨j,hj,g1,g2,g3⟩
  ·rw[g1] at h2;refine⟨f.facts.length,-1,h2 m (by omega),.inl ⟨by omega,rfl⟩,?_⟩;have hw:=acu hs (fx k a n) f.facts.length (aX _) hn (fun i hi _=>by have:=g2 i hi;simpa [hi] using this) (fun h=>by omega);rw[Kj];show D.agg _=D.agg _;unfold dH;simp only[facts,hw,oa,Uc,K1];rfl
  ·rw[g1] at h2;refine⟨j,j,h2 m (by omega),.inr ⟨rfl,by omega⟩,?_⟩;have hw:=acu hs (fx k a n) j (by omega) hn (fun i hi cD=>by have:=g3 i cD;simpa [hi] using this) (fun h=>by simpa [h] using g2);rw[Kj];show D.agg _=D.agg _;unfold dH;simp only[facts,hw,oa,Uc,K1];rfl
 ·rw[e1] at h0;have hf:f.facts[i].kind=k∧f.facts[i].at_=a:=by simpa [hi,eG] using e2
  obtain⟨n1,h1⟩:=hI (f.facts.drop (i+1)) (by rw[rZ];omega)
  have C8:kE (f.facts.drop (i+1)).length (fun j=>eG k a ((f.facts.drop (i+1)).getD j default))=-1:=by
   refine DJ fun j hj=>?_;have bA:i+1+j<f.facts.length:=by rw[rZ] at hj;omega
   have hah:=hp i (i+1+j) hi bA (by omega);have hg:(f.facts.drop (i+1)).getD j default=f.facts[i+1+j]:=by simp[bA]
   rw[hg];unfold ct at hah;simp[eG];omega
  rw[C8] at h1;refine⟨max n0 n1,fun m hm=>key m ?_⟩;refine⟨_,k,a,n,f.facts.map kq,rfl,eW,by rw[fL];omega,.inl ⟨i,by rw[fL];exact hi,h0 m (by omega),?_,?_⟩⟩
  ·have:=h1 m (by omega);unfold facts at this;rw[K1] at this;exact this
  ·have hw:=arA hs (fx k a n) i hi hf;rw[Kj];show D.agg _=D.agg _;unfold dH;simp only[facts,hw,oa,Uc,K1];rfl
def ua (x y:Said):Int:=
 if(x.err=0∧x.cell.known=false)∨(y.err=0∧y.cell.known=false) then 2
 else if ¬(x.err=0↔y.err=0)∨(x.err=0∧x.cell.n≠y.cell.n) then 1 else 0
def eF (r:Realm)(a b q:Int)(c:Case):Int:=ua (kV r a q c) (kV r b q c)
theorem xW (r:Realm)(hr:Right r)(a b q:Int)(c:Case)(hf:FewS c.file):av T 13 [bK r,.int a,.int b,.int q,cg c] (.int (eF r a b q c)):=by
 refine .of_tree rfl (lA 5 (by kernel_rfl)) apw ?_;simp[RI];refine⟨_,UB r hr a q c hf,_,UB r hr b q c hf,?_⟩;unfold eF ua;generalize kV r a q c=x;generalize kV r b q c=y;by_cases h1:x.err=0<;>by_cases h2:y.err=0<;>cases h3:x.cell.known<;>cases h4:y.cell.known<;>by_cases h5:x.cell.n=y.cell.n<;>simp[h1,h2,h3,h4,h5]
end Rm
