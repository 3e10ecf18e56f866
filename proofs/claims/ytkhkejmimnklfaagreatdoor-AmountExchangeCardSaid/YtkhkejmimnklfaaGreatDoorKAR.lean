/-
  Shared texts of this claim.
-/
import Derived.Test.YtkhkejmimnklfaaGreatDoorKAQ
set_option linter.unusedSimpArgs false
set_option linter.unusedVariables false
namespace Rm
open Go Go.Proofs Cx
theorem amW {r:Realm}{f:File}(h:oK r f=true)(hc:cG r=0):wK r f=true:=by simp[wK,h,hc]
def afO (d:D):Prop:=∃b:Bool,d=.bool b
theorem am2 (r:Realm)(hr:r.OK)(f:File)(AZ:f.OK):∃d,ak T Z6 [aX r,bU f] d∧∃b:Bool,d=.bool b∧(b=true→wK r f=true∧PaperOK r f):=by
 refine ak.ex_of_tree rfl ag1 ayk ?_;have AY:∃b:Bool,ak T PL [bU f] (.bool b):=by
  have h:∃d,ak T PL [bU f] d∧afO d:=by
   refine ak.ex_of_tree rfl ahm ayF ?_;simp[Tx];split
   ·exact⟨_,rfl⟩
   ·exact⟨_,rfl⟩
  obtain⟨d,hd,b,rfl⟩:=h;exact⟨b,hd⟩
 simp[Tc];refine⟨_,awe r f hr,?_⟩;cases e1:oK r f
 ·simp
 have hs:Small r:=Nl hr (by simp only[oK,Bool.and_eq_true] at e1;exact e1.1.1);simp;refine⟨_,Dg r hs,?_⟩;by_cases e2:cG r=0
 case neg=>simp[e2]
 simp[e2];obtain⟨b,hb⟩:=AY;refine⟨_,hb,?_⟩;cases b
 ·simp
 obtain⟨d,hd,e,rfl,he⟩:=avM r hs f AZ;simp;refine⟨_,hd,?_⟩;simp;by_cases e0:e=0
 ·exact .inr ⟨e0,amW e1 e2,he.1 e0⟩
 ·exact .inl e0
theorem af0 {r:Realm}{f:File}{a:Act}(h:oA r f a=true)(hc:nm a=true):0≤a.sum∧a.sum≤1099511627776:=by
 unfold oA at h;split at h
 ·cases h
 have hk:a.kind=4∨a.kind=5:=by simpa [nm] using hc
 unfold y7 at h;rw[if_neg (by omega),if_pos (by omega)] at h;simp[wi] at h;omega
theorem avC {r:Realm}{f:File}(G:Good r f)(hc:cG r=0)(hP:PaperOK r f):ORun r f:=by
 refine⟨G.right,G.rightD,G.few,K1 hc,hP.sums,fun s hs=>?_,fun a ha hk=>?_⟩
 ·obtain⟨i,hi,rfl⟩:=List.getElem_of_mem hs;exact(hP.sign i hi).who
 ·obtain⟨i,hi,rfl⟩:=List.getElem_of_mem ha;exact af0 (hP.act i hi).fits hk
end Rm
namespace Rm
open Go Go.Proofs Cx
def DG (fr to:Int)(u:Usance):Bool:=decide (u.fr=fr)&&decide (u.to=to)
def DF (l:List Usance)(fr to:Int):Int×Int:=match l.find? (DG fr to) with|some u=>(u.days,0)|none=>(0,4)
theorem afW (r:Realm)(fr to:Int)(hl:r.usances.length≤100000):ak T Hm [aX r,.int fr,.int to] (.tup [.int (DF r.usances fr to).1,.int (DF r.usances fr to).2]):=by
 refine .of_tree rfl Vr afi ?_;simp[LD];unfold DF;refine aL.scan r.usances.length (fun k=>DG fr to (r.usances.getD k default)=false) (fun k=>[.int 0,.int 0,.int k]) (fun _=>[]) ?_ (fun k hk hj au=>?_) (fun k hk hj au=>?_) (fun hj=>?_)
 ·simp
 ·have hw:=bF hk (by omega);have hn:¬(r.usances[k].fr=fr∧r.usances[k].to=to):=by simpa [DG,hk] using au
  simp[yx,sM,hk,hw,hn]
 ·have jn:=wD hk (by simpa [hk] using au) (fun j cg=>by have:=hj j cg;simpa [show j<r.usances.length by omega] using this);have hc:r.usances[k].fr=fr∧r.usances[k].to=to:=by simpa [DG,hk] using au
  rw[jn];simp[yx,sM,hk,hc]
 ·have jn:=AL (l:=r.usances) (p:=DG fr to) (fun j cg=>by have:=hj j cg;simpa [cg] using this);rw[jn];simp[yx,sM]
noncomputable def DV (d:Int)(t:Tenor):Int×Int:=((y8 d t).choose,(y8 d t).choose_spec.choose)
theorem Vd (d:Int)(t:Tenor):ak T PS [.int d,mj t] (.tup [.int (DV d t).1,.int (DV d t).2]):=(y8 d t).choose_spec.choose_spec
noncomputable def v5 (l:List Usance)(b:Bill)(seen:Int):Int×Int:=
 if b.tenor.kind=0 then(seen,0) else if b.tenor.kind=1 then DV seen b.tenor else if b.tenor.kind=2 then DV b.day b.tenor
 else if b.tenor.kind=4 then(IntKind.i64.wrap (b.day+(DF l b.city b.pay).1),(DF l b.city b.pay).2) else(b.tenor.n,0)
theorem aiB (r:Realm)(hr:RightD r)(b:Bill)(seen:Int):ak T xG [aX r,cX b,.int seen] (.tup [.int (v5 r.usances b seen).1,.int (v5 r.usances b seen).2]):=by
 have OS:D.agg [D.int b.tenor.kind,D.int b.tenor.n,D.int b.tenor.unit]=mj b.tenor:=rfl;refine .of_tree rfl tI vO ?_;unfold v5;by_cases h0:b.tenor.kind=0
 ·simp[l6,h0]
 by_cases h1:b.tenor.kind=1
 ·have h:=Vd seen b.tenor;have cq:(b.tenor.kind=1)=True:=eq_true h1;simp[l6,h0,cq];exact⟨_,h,by simp⟩
 by_cases h2:b.tenor.kind=2
 ·have h:=Vd b.day b.tenor;have fR:(b.tenor.kind=2)=True:=eq_true h2;simp[l6,h0,h1,fR];exact⟨_,h,by simp⟩
 by_cases h4:b.tenor.kind=4
 ·have h:=afW r b.city b.pay (by have:=hr.small.us;omega);have ly:(b.tenor.kind=4)=True:=eq_true h4;simp[l6,h0,h1,h2,ly];exact⟨_,h,by simp⟩
 ·simp[l6,h0,h1,h2,h4]
def Pg (r:Realm)(pay bD:Int)(x:Int×Int):Int×Int:=
 if x.2≠0 then(0,x.2) else if dO x.1=false∨100000<IntKind.i64.wrap (x.1+bD) then(0,3) else pM r pay (IntKind.i64.wrap (x.1+bD))
noncomputable def wk (r:Realm)(b:Bill)(seen bD:Int):Int×Int:=
 if cG r≠0∨aG b.city r.cities.length=false∨aG b.pay r.cities.length=false∨dO b.day=false then(0,1)
 else if((b.tenor.kind<0∨5≤b.tenor.kind)∨b.tenor.unit<0)∨2≤b.tenor.unit then(0,1)
 else if((¬seen=-1∧dO seen=false)∨bD<0)∨20000<bD then(0,1)
 else if yI b.tenor=true∧seen=-1 then(0,4)
 else Pg r b.pay bD (v5 r.usances b seen)
theorem afG (r:Realm)(hr:RightD r)(b:Bill)(seen bD:Int):ak T Cb [aX r,cX b,.int seen,.int bD] (.tup [.int (wk r b seen bD).1,.int (wk r b seen bD).2]):=by
 have OS:D.agg [D.int b.tenor.kind,D.int b.tenor.n,D.int b.tenor.unit]=mj b.tenor:=rfl;have gA:=Dg r hr.small;obtain⟨G,hG⟩:∃G,G=wk r b seen bD:=⟨_,rfl⟩
 rw[←hG];unfold wk at hG;refine .of_tree rfl Mc Ug ?_;simp[DC];refine⟨_,gA,?_⟩;by_cases h0:cG r=0
 case neg=>simp[h0] at hG ⊢;simp[hG]
 simp[h0] at hG ⊢;refine⟨_,xr r b.city,?_⟩;cases h1:aG b.city r.cities.length
 ·simp[h1] at hG ⊢;simp[hG]
 simp[h1] at hG ⊢;refine⟨_,xr r b.pay,?_⟩;cases h2:aG b.pay r.cities.length
 ·simp[h2] at hG ⊢;simp[hG]
 simp[h2] at hG ⊢;refine⟨_,rU b.day,?_⟩;cases h3:dO b.day
 ·simp[h3] at hG ⊢;simp[hG]
 simp[h3] at hG ⊢;have hp:0≤b.pay∧b.pay<r.cities.length:=by simpa [aG] using h2
 by_cases h4:((b.tenor.kind<0∨5≤b.tenor.kind)∨b.tenor.unit<0)∨2≤b.tenor.unit
 ·rw[if_pos h4] at hG ⊢;simp[hG]
 rw[if_neg h4] at hG ⊢;have fin:G=Pg r b.pay bD (v5 r.usances b seen)→0≤bD→bD≤20000→∃d,ak T xG [aX r,cX b,D.int seen] d∧
  if(d.tget 1).i=0 then ∃d1,ak T Hn [d.tget 0] d1∧(if d1.b=false∨100000<IntKind.i64.wrap ((d.tget 0).i+bD) then 0=G.1∧3=G.2 else
        ∃d2,ak T Ho [aX r,D.int b.pay,D.int (IntKind.i64.wrap ((d.tget 0).i+bD))] d2∧d2.tget 0=D.int G.1∧d2.tget 1=D.int G.2)
  else 0=G.1∧d.tget 1=D.int G.2:=by
  intro hG ur jr;refine⟨_,aiB r hr b seen,?_⟩;unfold Pg at hG;generalize v5 r.usances b seen=B at*;obtain⟨n,e⟩:=B;by_cases he:e=0
  ·simp[he] at hG ⊢;refine⟨_,rU n,?_⟩;cases hd:dO n
   ·simp[hd] at hG ⊢;simp[hG]
   have eA:0≤n∧n≤100000:=by simpa [dO] using hd
   have hw:IntKind.i64.wrap (n+bD)=n+bD:=aU (by omega);simp[hd,hw] at hG ⊢;by_cases hle:100000<n+bD
   ·rw[if_pos hle] at hG ⊢;simp[hG]
   ·rw[if_neg hle] at hG ⊢;refine⟨_,Sg r hr.halts b.pay (n+bD) hp hr.cities (by omega) (by omega),?_⟩;simp[hG]
  ·simp[he] at hG ⊢;simp[hG]
 by_cases hs:seen=-1
 ·simp[hs] at fin hG ⊢;by_cases h5:bD<0∨20000<bD
  ·rw[if_pos h5] at hG ⊢;simp[hG]
  rw[if_neg h5] at hG ⊢;refine⟨_,yY b.tenor,?_⟩;cases h6:yI b.tenor
  ·simp[h6] at hG ⊢;exact fin hG (by omega) (by omega)
  ·simp[h6] at hG ⊢;simp[hG]
 ·simp[hs] at fin hG ⊢;refine⟨_,rU seen,?_⟩;cases hk:dO seen
  ·simp[hk] at hG ⊢;simp[hG]
  simp[hk] at hG ⊢;by_cases h5:bD<0∨20000<bD
  ·rw[if_pos h5] at hG ⊢;simp[hG]
  rw[if_neg h5] at hG ⊢;exact⟨⟨_,yY b.tenor⟩,fin hG (by omega) (by omega)⟩
theorem V8 {r:Realm}(hr:RightD r)(b:Bill)(seen bD:Int):mg r b seen bD=wk r b seen bD:=by
 have h:=(LR r hr b seen bD).det (afG r hr b seen bD);simp at h;exact Prod.ext h.1 h.2
end Rm
namespace Rm
open Go Go.Proofs Cx
def cw (r:Realm)(l:List Rate):Realm:={r with rates:=l}
theorem Vl (r:Realm)(l:List Rate)(forum q:Int)(c:Case):gu (cw r l) forum q c=gu r forum q c:=by kernel_rfl
theorem Vu (r:Realm)(l:List Rate)(forum q:Int)(f:File)(day:Int):ma (cw r l) forum q f day=ma r forum q f day:=by kernel_rfl
theorem alN {r:Realm}{l:List Rate}(h1:RightD r)(h2:RightD (cw r l))(h:cG (cw r l)=cG r)(b:Bill)(seen bD:Int):mg (cw r l) b seen bD=mg r b seen bD:=by
 rw[V8 h1,V8 h2];unfold wk;rw[h];kernel_rfl
theorem Zh {r:Realm}{l:List Rate}(h1:RightD r)(h2:RightD (cw r l))(h:cG (cw r l)=cG r)(forum:Int)(f:File)(day:Int):eT (cw r l) forum f day=eT r forum f day:=by
 unfold eT;rw[Vu,alN h1 h2 h]
theorem amx (v:View)(l:List Rate)(sign:Int):rl {v with realm:=cw v.realm l} sign=rl v sign:=by kernel_rfl
theorem amz {r:Realm}{l:List Rate}(h1:RightD r)(h2:RightD (cw r l))(h:cG (cw r l)=cG r)(forum:Int)(f:File)(sign day:Int):cL (cw r l) forum f sign day=cL r forum f sign day:=by
 have ho:gp (cw r l) forum f day={gp r forum f day with realm:=cw r l}:=by
  unfold gp;rw[Vu,Zh h1 h2 h]
 unfold cL;rw[ho];have:=amx (gp r forum f day) l sign;rw[show(gp r forum f day).realm=r from rfl] at this;rw[this]
theorem alL {r:Realm}{l:List Rate}(h1:RightD r)(h2:RightD (cw r l))(h:cG (cw r l)=cG r)(forum:Int)(f:File)(sign day:Int):cH (cw r l) forum f sign day=cH r forum f sign day:=by
 unfold cH gd;rw[amz h1 h2 h,Zh h1 h2 h,Vl,Vl];rfl
end Rm
namespace Rm
open Go Go.Proofs Cx
theorem aun {n d:Int}(hn:1≤n)(hd:1≤d):(iT n d).1=(iT d n).2.1∧(iT n d).2.1=(iT d n).1:=by
 unfold iT;rw[if_neg (by omega),if_neg (by omega),Nat.gcd_comm];exact⟨rfl,rfl⟩
theorem HI (x:Rate)(a b day:Int):fw [x] a b day=if(x.fr=a∧x.to=b)∧x.since≤day then 0 else-1:=by
 show sw [x] a b day (-1) 0=_;unfold sw;simp
theorem aec (r:Realm)(x:Rate)(a b day:Int):rateF (cw r [x]) a b day=if(x.fr=a∧x.to=b)∧x.since≤day then iT x.num x.den else if(x.fr=b∧x.to=a)∧x.since≤day then iT x.den x.num else(0,0,false):=by
 unfold rateF;show(if 0≤fw [x] a b day then _ else if 0≤fw [x] b a day then _ else _)=_;rw[HI,HI];by_cases h1:(x.fr=a∧x.to=b)∧x.since≤day
 ·rw[if_pos h1,if_pos h1,if_pos (by decide),show fw (cw r [x]).rates a b day=0 from(HI x a b day).trans (if_pos h1)];rfl
 ·rw[if_neg h1,if_neg h1,if_neg (by decide)];by_cases h2:(x.fr=b∧x.to=a)∧x.since≤day
  ·rw[if_pos h2,if_pos h2,if_pos (by decide),show fw (cw r [x]).rates b a day=0 from(HI x b a day).trans (if_pos h2)];rfl
  ·rw[if_neg h2,if_neg h2,if_neg (by decide)]
theorem amP (r:Realm)(own cur sum fr to:Int):nv (rateF (cw r [])) own cur sum fr to=0:=by
 unfold nv;split
 ·rfl
 ·exact if_neg fun h=>(by cases h.1)
theorem amR (r:Realm){x:Rate}(h1:1≤x.num)(h2:1≤x.den)(own cur sum fr to:Int):nv (rateF (cw r [x])) own cur sum fr to=0:=by
 unfold nv;split
 ·rfl
 rename_i aC;split
 case isFalse=>rfl
 rename_i au;obtain⟨s1,s2⟩:=aun h1 h2;have hz:∀s k w:Int,k=w→sk s k w=0:=fun s k w e=>if_pos (by omega);refine hz _ _ _ ?_;rw[aec,aec] at au ⊢;by_cases c1:(x.fr=cur∧x.to=own)∧x.since≤fr
 ·rw[if_pos c1] at au ⊢;have c2:¬((x.fr=own∧x.to=cur)∧x.since≤to):=fun h=>aC (by omega);rw[if_neg c2] at au ⊢;by_cases c3:(x.fr=cur∧x.to=own)∧x.since≤to
  ·rw[if_pos c3,s1,s2,Int.mul_comm]
  ·rw[if_neg c3] at au;cases au.2
 ·rw[if_neg c1] at au ⊢;by_cases c2:(x.fr=own∧x.to=cur)∧x.since≤fr
  ·rw[if_pos c2] at au ⊢;by_cases c3:(x.fr=own∧x.to=cur)∧x.since≤to
   ·rw[if_pos c3,s1,s2,Int.mul_comm]
   ·rw[if_neg c3] at au;have c4:¬((x.fr=cur∧x.to=own)∧x.since≤to):=fun h=>aC (by omega);rw[if_neg c4] at au;cases au.2
  ·rw[if_neg c2] at au;cases au.1
theorem ald {r:Realm}{l:List Rate}(h:cG r=0)(hl:l=[]∨∃k,∃hk:k<r.rates.length,l=[r.rates[k]]):cG (cw r l)=0:=by
 have e:kF (cw r l)=0:=by
  have h1:kF r=0:=(vH.1 h) _ (by simp);unfold kF at h1 ⊢;split at h1
  ·cases h1
  split at h1
  ·cases h1
  rename_i a1 a2;have h3:eK r.rates.length (sL r)=true:=by simpa using a2
  split at h1
  ·cases h1
  rename_i a3;split at h1
  case isFalse=>cases h1
  rename_i a4;have b1:eK (cw r l).rates.length (sL (cw r l))=true:=by
   rcases hl with rfl|⟨k,hk,rfl⟩
   ·rfl
   ·refine L9 fun j hj=>?_;have:j=0:=by simp[cw] at hj;exact hj
    subst this;have:=vX.1 h3 k hk;unfold sL at this ⊢;rw[show r.rates.getD k default=r.rates[k] from by simp[hk]] at this;exact this
  have b2:¬100<(cw r l).rates.length:=by
   rcases hl with rfl|⟨k,hk,rfl⟩<;>simp[cw]
  rw[if_neg b2,b1,if_neg (by decide)];show(if 20<r.halts.length then 6 else if eK r.halts.length (wO r)=true then 0 else 1)=(0:Int)
  rw[if_neg a3,if_pos a4]
 have e2:cG (cw r l)=kH [gT r.currencies 8 (fun _=>true),gT (sn r) 40 (v9 r),F1 r,gT (pq r) 200 (rp r),gT (pv r) 20 (su r),DH r,kF (cw r l)]:=by kernel_rfl
 rw[e2,e,vH];intro x hx;have h2:=vH.1 h;simp only[List.mem_cons,List.not_mem_nil,or_false] at hx;rcases hx with rfl|rfl|rfl|rfl|rfl|rfl|rfl
 all_goals first|rfl|exact h2 _ (by simp)
theorem axe {r:Realm}{l:List Rate}(h:Small r)(hl:l.length≤1000)(hs:∀x,x∈l→x∈r.rates):Small (cw r l):=
 ⟨h.cur,h.cities,h.groups,h.firms,h.orders,h.us,hl,h.halts,h.city,h.order,fun x hx=>h.rate x (hs x hx)⟩
theorem adb {r:Realm}{f:File}{l:List Rate}(h:ORun r f)(hl:l.length≤1000)(hs:∀x,x∈l→x∈r.rates):ORun (cw r l) f:=
 ⟨⟨h.right.by_,h.right.len,h.right.ok⟩,⟨axe h.rightD.small hl hs,h.rightD.halts⟩,h.few,⟨fun x hx=>h.realm.rates x (hs x hx),h.realm.firms⟩,h.sums,h.who,h.acts⟩
theorem avF {r:Realm}{f:File}{l:List Rate}(h:ORun r f)(hc:cG r=0)(hl:l=[]∨∃k,∃hk:k<r.rates.length,l=[r.rates[k]])(forum sign day:Int):
 (da (cw r l) forum f sign day).sum=(da r forum f sign day).sum∧(da (cw r l) forum f sign day).interest=(da r forum f sign day).interest∧(da (cw r l) forum f sign day).costs=(da r forum f sign day).costs∧(da (cw r l) forum f sign day).exchange=0:=by
 have uA:l.length≤1000:=by rcases hl with rfl|⟨k,hk,rfl⟩<;>simp
 have hs:∀x,x∈l→x∈r.rates:=by
  intro x hx;rcases hl with rfl|⟨k,hk,rfl⟩
  ·cases hx
  ·obtain rfl:=List.mem_singleton.1 hx;exact List.getElem_mem hk
 have hO:=adb h uA hs;have hd:=alL h.rightD hO.rightD ((ald hc hl).trans hc.symm) forum f sign day;have hx:∀d:Due,d.exch (rateF (cw r l))=0:=by
  intro d;unfold Due.exch;split
  case isFalse=>rfl
  rcases hl with rfl|⟨k,hk,rfl⟩
  ·exact amP r _ _ _ _ _
  ·have:=h.realm.rates _ (List.getElem_mem hk);exact amR r this.1.1 this.2.1 _ _ _ _ _
 unfold da;rw[hd];unfold Due.owed;split
 ·exact⟨rfl,rfl,rfl,rfl⟩
 ·exact⟨rfl,rfl,rfl,hx _⟩
theorem amO {r:Realm}{f:File}{sign:Int}{k:Nat}(hk:k<f.signs.length)(e:sign=k)(hc:mf r f.signs[k].who=f.bill.currency)(forum day:Int):(da r forum f sign day).exchange=0:=by
 subst e;unfold da Due.owed;split
 ·rfl
 rename_i ht;show(cH r forum f k day).exch (rateF r)=0;unfold Due.exch;split
 case isFalse=>rfl
 have BO:(cL r forum f k day).2=true:=by
  have:(cH r forum f k day).there=(cL r forum f k day).2:=rfl;rw[←this];simpa using ht
 have ah:k<(bn f day).signs.length:=by
  unfold cL at BO;split at BO
  ·cases BO
  ·rename_i h;have:(gp r forum f day).file.signs.length=(bn f day).signs.length:=rfl;omega
 have hs:(bn f day).signs[k]=f.signs[k]:=by
  have hp:(bn f day).signs<+:f.signs:=List.takeWhile_prefix _;exact(hp.getElem ah).symm▸rfl
 have bE:(cH r forum f k day).own=f.bill.currency:=by
  show mf r (cW (bn f day) k).who=_;have:cW (bn f day) k=f.signs[k]:=by
   rw[←hs];simp[cW,ah]
  rw[this,hc]
 rw[bE];exact if_pos rfl
end Rm
namespace Rm
open Go Go.Proofs Cx
@[simp] theorem aHe (a0 a1 a2 a3 a4 a5 a6 a7 x:D):cK [a0,a1,a2,a3,a4,a5,a6,a7] 6 [x]=[a0,a1,a2,a3,a4,a5,x,a7]:=_root_.id rfl
theorem avE {r:Realm}{f:File}(h:ORun r f)(forum sign day:Int):0≤(da r forum f sign day).exchange∧(da r forum f sign day).exchange≤(da r forum f sign day).sum:=by
 unfold da Due.owed;split
 ·exact⟨Int.le_refl _,Int.le_refl _⟩
 ·exact Wp (V7 r forum h.sums sign day) (Rl h.realm)
theorem afA (r:Realm)(hr:r.OK)(forum:Int)(f:File)(AZ:f.OK)(sign day i:Int):ak T Z4 [aX r,.int forum,bU f,.int sign,.int day,.int i] (.bool true):=by
 refine .of_tree rfl agZ ayi ?_;simp[Ta];obtain⟨d,hd,b,rfl,hb⟩:=am2 r hr f AZ;refine⟨_,awZ,_,hd,?_⟩;cases b
 ·simp
 obtain⟨hg,hP⟩:=hb rfl;have G:=apH hr hg;have gA:cG r=0:=by simp[wK] at hg;exact hg.2
 have hO:=avC G gA hP;have hx:=avE hO forum sign day;simp;refine⟨_,DP r forum f sign day hO,?_⟩;have last:∀l,(l=[]∨∃k,∃hk:k<r.rates.length,l=[r.rates[k]])→∃o:Owed,ak T PD [aX (cw r l),.int forum,bU f,.int sign,.int day] (ke o)∧
  o.exchange=0∧o.sum=(da r forum f sign day).sum∧o.interest=(da r forum f sign day).interest∧o.costs=(da r forum f sign day).costs:=by
  intro l hl;have uA:l.length≤1000:=by rcases hl with rfl|⟨k,hk,rfl⟩<;>simp
  have hs:∀x,x∈l→x∈r.rates:=by
   intro x hx;rcases hl with rfl|⟨k,hk,rfl⟩
   ·cases hx
   ·obtain rfl:=List.mem_singleton.1 hx;exact List.getElem_mem hk
  obtain⟨q1,q2,q3,q4⟩:=avF hO gA hl forum sign day;exact⟨_,DP (cw r l) forum f sign day (adb hO uA hs),q4,q1,q2,q3⟩
 have home:∀k:Nat,∀hk:k<f.signs.length,sign=k→mf r f.signs[k].who=f.bill.currency→(da r forum f sign day).exchange=0:=fun k hk e h=>amO hk e h forum day;generalize da r forum f sign day=o at*;have gm:¬o.exchange<0:=by omega
 have mD:¬o.sum<o.exchange:=by omega
 simp[gm,mD];refine⟨hx,?_⟩;by_cases hs:0≤sign∧sign<f.signs.length
 ·rw[if_pos hs];obtain⟨k,rfl⟩:=Int.eq_ofNat_of_zero_le hs.1;have hk:k<f.signs.length:=by omega
  have hw:=hO.who _ (List.getElem_mem hk);obtain⟨w,fI⟩:=Int.eq_ofNat_of_zero_le hw.1;have dY:w<r.firms.length:=by omega
  have hc:=hO.realm.firms _ (List.getElem_mem dY);obtain⟨c,A7⟩:=Int.eq_ofNat_of_zero_le hc.1;have A8:c<r.cities.length:=by omega
  have hh:=home k hk rfl;have NS:mf r f.signs[k].who=r.cities[c].currency:=by simp[mf,fI,dY,A7,A8]
  rw[NS] at hh;simp[hk,fI,dY,A7,A8];refine⟨hh,?_⟩;by_cases hi:0≤i∧i<r.rates.length
  ·rw[if_pos hi];obtain⟨j,rfl⟩:=Int.eq_ofNat_of_zero_le hi.1;have hj:j<r.rates.length:=by omega
   obtain⟨o',h1,h2,h3,h4,h5⟩:=last [r.rates[j]] (.inr ⟨j,hj,rfl⟩);simp[hj];refine⟨_,h1,?_⟩;simp[h2,h3,h4,h5]
  ·rw[if_neg hi];obtain⟨o',h1,h2,h3,h4,h5⟩:=last [] (.inl rfl);refine⟨_,h1,?_⟩;simp[h2,h3,h4,h5]
 ·rw[if_neg hs];by_cases hi:0≤i∧i<r.rates.length
  ·rw[if_pos hi];obtain⟨j,rfl⟩:=Int.eq_ofNat_of_zero_le hi.1;have hj:j<r.rates.length:=by omega
   obtain⟨o',h1,h2,h3,h4,h5⟩:=last [r.rates[j]] (.inr ⟨j,hj,rfl⟩);simp[hj];refine⟨_,h1,?_⟩;simp[h2,h3,h4,h5]
  ·rw[if_neg hi];obtain⟨o',h1,h2,h3,h4,h5⟩:=last [] (.inl rfl);refine⟨_,h1,?_⟩;simp[h2,h3,h4,h5]
end Rm
