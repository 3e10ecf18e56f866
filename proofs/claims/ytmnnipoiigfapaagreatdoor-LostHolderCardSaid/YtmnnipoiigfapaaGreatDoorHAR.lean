/-
  Shared texts of this claim.
-/
import Derived.Test.YtmnnipoiigfapaaGreatDoorHAQ
set_option linter.unusedSimpArgs false
set_option linter.unusedVariables false
namespace Rm
open Go Go.Proofs Cx
set_option maxRecDepth 4000 in
theorem apX (r:Realm)(hr:Small r)(f:File)(hp:1≤f.bill.parts∧f.bill.parts≤4)(hl:f.signs.length≤100000)(wQ:f.acts.length≤100000)(i:Nat)(h:i<f.acts.length):aq T 27 [aZ r,aX f,.int i] (.int (gl r f i)):=by
 refine .of_tree rfl (lA 130 (by kernel_rfl)) asM ?_;have NA:=hr.cities;have db:IntKind.i64.wrap ((r.cities.length:Int)-1)=(r.cities.length:Int)-1:=bL (by omega);have xc:IntKind.i64.wrap (f.bill.parts-1)=f.bill.parts-1:=bL (by omega);have hs:f.acts.getD i default=f.acts[i]:=by simp[h]
 generalize hX:gl r f i=X;unfold gl at hX;simp only[hs] at hX;simp[TA,h,db,xc,bO];refine⟨_,bI _ _ _,?_⟩;cases a1:wi f.acts[i].part 0 (f.bill.parts-1)
 ·simpa [a1] using hX
 simp[a1] at hX ⊢;refine⟨_,bI _ _ _,?_⟩;rw[iT] at hX;cases a2:wi f.acts[i].city 0 ((r.cities.length:Int)-1)
 ·simpa [a2] using hX
 simp[a2] at hX ⊢;refine⟨_,bI _ _ _,?_⟩;cases a3:wi f.acts[i].kind 0 9
 ·simpa [a3] using hX
 simp[a3] at hX ⊢;refine⟨_,apU r hr f f.acts[i] hl (by simpa [wi] using a3),?_⟩;cases a4:actB r f f.acts[i]
 ·simpa [a4] using hX
 simp[a4] at hX ⊢;have sH:=yp a4;unfold leastDay at hX;simp[wi] at hX;generalize hA:f.acts[i]=a at*;by_cases k0:i=0
 ·simp[k0] at hX ⊢;by_cases e1:a.at_=-1
  ·simp[e1] at hX ⊢;by_cases d1:a.day<f.bill.day∨100000<a.day
   ·rw[if_pos d1];rw[if_pos (by omega)] at hX;exact hX
   ·rw[if_neg d1];rw[if_neg (by omega)] at hX;exact hX
  ·obtain⟨h5,h6⟩:=sH e1;have h7:a.at_.toNat<f.signs.length:=by omega
   have h8:bD f a.at_=f.signs[a.at_.toNat]:=by simp[bD,h7]
   simp[e1,h8] at hX;simp[h5,h6,h7];by_cases d1:a.day<f.bill.day∨100000<a.day
   ·rw[if_pos d1];rw[if_pos (by omega)] at hX;exact hX
   rw[if_neg d1];by_cases d2:a.day<f.signs[a.at_.toNat].day
   ·rw[if_pos d2];rw[if_pos (by omega)] at hX;exact hX
   ·rw[if_neg d2];rw[if_neg (by omega)] at hX;exact hX
 ·have bl:IntKind.i64.wrap ((i:Int)-1)=(i:Int)-1:=bL (by omega);have bE:((i:Int)-1).toNat=i-1:=by omega
  have eG:i-1<f.acts.length:=by omega
  have m6:0<i:=by omega
  simp[k0,eG] at hX;by_cases e1:a.at_=-1
  ·simp[e1] at hX;simp[e1,bl,bE,eG,m6];by_cases d1:a.day<f.bill.day∨100000<a.day
   ·rw[if_pos d1];rw[if_pos (by omega)] at hX;exact hX
   rw[if_neg d1];refine⟨by omega,?_⟩;by_cases d2:a.day<f.acts[i-1].day
   ·rw[if_pos d2];rw[if_pos (by omega)] at hX;exact hX
   ·rw[if_neg d2];rw[if_neg (by omega)] at hX;exact hX
  ·obtain⟨h5,h6⟩:=sH e1;have h7:a.at_.toNat<f.signs.length:=by omega
   have h8:bD f a.at_=f.signs[a.at_.toNat]:=by simp[bD,h7]
   simp[e1,h8] at hX;simp[h5,h6,h7,bl,bE,eG,m6];by_cases d1:a.day<f.bill.day∨100000<a.day
   ·rw[if_pos d1];rw[if_pos (by omega)] at hX;exact hX
   rw[if_neg d1];by_cases d2:a.day<f.signs[a.at_.toNat].day
   ·rw[if_pos d2];rw[if_pos (by omega)] at hX;exact hX
   rw[if_neg d2];refine⟨by omega,?_⟩;by_cases d3:a.day<f.acts[i-1].day
   ·rw[if_pos d3];rw[if_pos (by omega)] at hX;exact hX
   ·rw[if_neg d3];rw[if_neg (by omega)] at hX;exact hX
theorem apZ (f:File)(hl:f.signs.length≤100000)(hlf:f.facts.length≤100000)(i:Nat)(h:i<f.facts.length):aq T 28 [aX f,.int i] (.int (iJ f i)):=by
 refine .of_tree rfl (lA 132 (by kernel_rfl)) asO ?_;have db:IntKind.i64.wrap ((f.signs.length:Int)-1)=(f.signs.length:Int)-1:=bL (by omega);have hs:f.facts.getD i default=f.facts[i]:=by simp[h]
 generalize hX:iJ f i=X;unfold iJ at hX;simp only[hs] at hX;simp[TC,h,db,bO];refine⟨_,bI _ _ _,?_⟩;cases a1:wi f.facts[i].kind 0 4
 ·simpa [a1] using hX
 simp[a1] at hX ⊢;refine⟨_,bI _ _ _,?_⟩;rw[iT] at hX;cases a2:wi f.facts[i].at_ 0 ((f.signs.length:Int)-1)
 ·simpa [a2] using hX
 simp[a2] at hX ⊢;refine⟨_,bI _ _ _,?_⟩;cases a3:wi f.facts[i].n 0 1
 ·simpa [a3] using hX
 simp[a3] at hX ⊢;by_cases k0:i=0
 ·simp[k0] at hX ⊢;exact hX
 ·have bl:IntKind.i64.wrap ((i:Int)-1)=(i:Int)-1:=bL (by omega);have bE:((i:Int)-1).toNat=i-1:=by omega
  have eG:i-1<f.facts.length:=by omega
  have m6:0<i:=by omega
  simp[k0,eG] at hX;simp[bl,bE,eG,m6,bO];refine⟨by omega,?_⟩;by_cases e:mU f.facts[i-1] f.facts[i]
  ·rw[if_pos e] at hX;unfold mU at e;rw[if_neg (by omega)];exact hX
  ·rw[if_neg e] at hX;unfold mU at e;rw[if_pos (by omega)];exact hX
def Ef (r:Realm)(f:File):Int:=
 if ¬((f.signs.length≤40∧f.alters.length≤4)∧f.acts.length≤100∧f.facts.length≤200) then 6
 else if qD r f.bill≠0 then qD r f.bill
 else if f.signs=[] then 14
 else if cK f.signs.length (signE r f)≠0 then cK f.signs.length (signE r f)
 else if cK f.alters.length (iI f)≠0 then cK f.alters.length (iI f)
 else if cK f.acts.length (gl r f)≠0 then cK f.acts.length (gl r f)
 else cK f.facts.length (iJ f)
def eX (e0:Int)(g:Nat→Int)(k:Nat):Int:=if k=0 then e0 else g (k-1)
structure AccOK (e0:Int) (g:Nat→Int) (n k:Nat):Prop where
 le:k≤n
 ini:e0≠0→k=0
 low:∀j,j+1<k→g j=0
theorem AccOK.start (e0:Int)(g:Nat→Int)(n:Nat):AccOK e0 g n 0:=⟨nK _,fun _=>rfl,fun j h=>by omega⟩
theorem AccOK.prev {e0:Int}{g:Nat→Int}{n k:Nat}(h:AccOK e0 g n k)(h0:eX e0 g k=0):∀j,j<k→g j=0:=by
 intro j hj;by_cases e:j+1=k
 ·unfold eX at h0;rw[if_neg (by omega)] at h0;rw[←h0];congr 1;omega
 ·exact h.low j (by omega)
theorem AccOK.next {e0:Int}{g:Nat→Int}{n k:Nat}(h:AccOK e0 g n k)(h0:eX e0 g k=0)(hk:k<n):AccOK e0 g n (k+1):=by
 refine⟨hk,fun he=>?_,fun j hj=>h.prev h0 j (by omega)⟩;have:=h.ini he;subst this;exact absurd h0 he
theorem AccOK.fin {e0:Int}{g:Nat→Int}{n k:Nat}(h:AccOK e0 g n k)(hk:k=n∨eX e0 g k≠0):eX e0 g k=if e0≠0 then e0 else cK n g:=by
 by_cases he:e0=0
 ·rw[if_neg (by simpa using he)];by_cases k0:k=0
  ·subst k0;rcases hk with hk|hk
   ·subst hk;simp[eX,he];rfl
   ·exact absurd he hk
  ·by_cases ha:eX e0 g k=0
   ·obtain rfl:k=n:=hk.resolve_right fun h=>h ha;rw[ha,HT (h.prev ha)]
   ·have e:eX e0 g k=g (k-1):=by unfold eX;rw[if_neg k0]
    rw[e] at ha ⊢;have:=h.le;exact(HS (by omega) (fun j hj=>h.low j (by omega)) ha).symm
 ·rw[if_pos he];have:=h.ini he;subst this;rfl
set_option maxRecDepth 4000 in
theorem apV (r:Realm)(hr:Small r)(f:File)(l6:f.OK):aq T 10 [aZ r,aX f] (.int (Ef r f)):=by
 refine .of_tree rfl (lA 119 (by kernel_rfl)) asJ ?_;generalize hX:Ef r f=X;unfold Ef at hX;simp[Tx];by_cases hf:(f.signs.length≤40∧f.alters.length≤4)∧f.acts.length≤100∧f.facts.length≤200
 case neg=>
  rw[if_pos hf] at hX;rw[if_pos (by omega)];exact hX
 rw[if_neg (fun h=>h hf)] at hX;rw[if_neg (by omega)];refine⟨_,apO r hr f.bill,?_⟩
 have eu:qD r f.bill=0→1≤f.bill.parts∧f.bill.parts≤4:=fun h=>by
  unfold qD at h;split at h
  ·omega
  split at h
  ·cases h
  split at h
  ·cases h
  split at h
  ·cases h
  rename_i h4;simpa using h4
 generalize hB:qD r f.bill=B at*;generalize gJ:(if B≠0 then B else if f.signs=[] then 14 else 0:Int)=e1
 have uF:e1=0→1≤f.bill.parts∧f.bill.parts≤4:=fun h=>eu (by
  by_cases hb:B=0
  ·exact hb
  ·rw[if_pos hb] at gJ;omega)
 generalize iO:(if e1≠0 then e1 else cK f.signs.length (signE r f))=e2;generalize wK:(if e2≠0 then e2 else cK f.alters.length (iI f))=e3;generalize Xy:(if e3≠0 then e3 else cK f.acts.length (gl r f))=e4
 have Om:e3=0→1≤f.bill.parts∧f.bill.parts≤4:=fun h=>uF (by
  by_cases h2:e2=0
  ·by_cases h1:e1=0
   ·exact h1
   ·rw[if_pos h1] at iO;omega
  ·rw[if_pos h2] at wK;omega)
 have ls:(if e4≠0 then e4 else cK f.facts.length (iJ f))=X:=by
  rw[←hX];subst Xy wK iO gJ;by_cases b0:B=0
  ·by_cases b1:f.signs=[]
   ·simp[b0,b1]
   ·simp only[b0,b1,ne_eq,not_true,if_false];by_cases b2:cK f.signs.length (signE r f)=0
    ·by_cases b3:cK f.alters.length (iI f)=0<;>by_cases b4:cK f.acts.length (gl r f)=0<;>simp[b2,b3,b4]
    ·simp only[b2,ne_eq,not_false_eq_true,if_true,if_false]
  ·simp[b0]
 refine aP.forLoop (α:=Nat) (fun k vr vo=>AccOK e1 (signE r f) f.signs.length k∧vr=[.int (eX e1 (signE r f) k),.int k]∧vo=[]) (fun k=>f.signs.length-k) 0 ?_ ?_
 ·refine⟨.start ..,?_,by simp⟩;simp[eX,←gJ];by_cases b0:B=0<;>by_cases b1:f.signs=[]<;>simp[b0,b1]
 rintro k vr vo ⟨hk,rfl,rfl⟩;by_cases hc:k<f.signs.length∧eX e1 (signE r f) k=0
 ·have hw:=bn hc.1 (by omega);have m9:=hk.next hc.2 hc.1
  have e1z:e1=0:=rR fun he=>by
   have:=hk.ini he;subst this;exact he hc.2
  simp[acH,Kr,hc,hw];refine⟨_,ap0 r hr f (uF e1z) k hc.1 (by omega) (hk.prev hc.2) (l6.2.1.2 _ (de hc.1)).2.2.2.2.2.2.2.2,k+1,by omega,m9,?_⟩;simp[eX]
 have hE:=hk.fin (by
  have:=hk.le;by_cases h1:k<f.signs.length
  ·exact .inr fun h=>hc ⟨h1,h⟩
  ·exact .inl (by omega))
 rw[iO] at hE;simp[acH,Kr,hE] at hc ⊢;rw[if_neg (by simpa using hc)];clear hc hE hk;refine aP.forLoop (α:=Nat) (fun k vr vo=>AccOK e2 (iI f) f.alters.length k∧vr=[.int (eX e2 (iI f) k),.int k]∧vo=[]) (fun k=>f.alters.length-k) 0 ?_ ?_
 ·exact⟨.start ..,by simp[eX],by simp⟩
 rintro k2 vr vo ⟨hk,rfl,rfl⟩;by_cases hc:k2<f.alters.length∧eX e2 (iI f) k2=0
 ·have hw:=bn hc.1 (by omega);have m9:=hk.next hc.2 hc.1;have DE:=hk.prev hc.2;have m4:eX e2 (iI f) (k2+1)=iI f k2:=by simp[eX]
  have hs:f.alters.getD k2 default=f.alters[k2]:=by simp[hc.1]
  generalize hV:iI f k2=V at m4;unfold iI at hV;simp only[hs] at hV;simp[acI,Ks,hc,hw];by_cases k0:k2=0
  ·subst k0;have uv:=hc.1;simp[uv] at hV ⊢;refine⟨_,bI _ _ _,?_⟩;cases a1:wi f.alters[0].at_ 1 f.signs.length
   ·simp[a1] at hV ⊢;exact⟨1,by omega,m9,by rw[m4,←hV],by simp⟩
   simp[a1] at hV ⊢;refine⟨_,bI _ _ _,?_⟩;cases a2:wi f.alters[0].sum 1 1099511627776
   ·simp[a2] at hV ⊢;exact⟨1,by omega,m9,by rw[m4,←hV],by simp⟩
   simp[a2,hc.2] at hV ⊢;exact⟨1,by omega,m9,by rw[m4,←hV],by simp⟩
  ·have bl:IntKind.i64.wrap ((k2:Int)-1)=(k2:Int)-1:=bL (by omega);have bE:((k2:Int)-1).toNat=k2-1:=by omega
   have eG:k2-1<f.alters.length:=by omega
   have m6:0<k2:=by omega
   have OW:IntKind.i64.wrap (f.alters[k2-1].at_+1)=f.alters[k2-1].at_+1:=by
        have h1:=DE (k2-1) (by omega);have h2:=(l6.2.2.1.2 _ (de eG)).1;have h3:f.alters.getD (k2-1) default=f.alters[k2-1]:=by simp[eG]
        unfold iI at h1;rw[h3] at h1;simp only at h1;generalize (if k2-1=0 then(0:Int) else(f.alters.getD (k2-1-1) default).at_)=L0 at h1;split at h1
        ·cases h1
        ·rename_i hh;simp[wi] at hh;unfold aN at h2;exact bL (by omega)
   have uv:=hc.1;simp[k0,eG] at hV;simp[bl,bE,eG,m6,OW,uv];refine⟨by omega,_,bI _ _ _,?_⟩;cases a1:wi f.alters[k2].at_ (f.alters[k2-1].at_+1) f.signs.length
   ·simp[a1] at hV ⊢;exact⟨k2+1,by omega,m9,by rw[m4,←hV],by simp⟩
   simp[a1] at hV ⊢;refine⟨_,bI _ _ _,?_⟩;cases a2:wi f.alters[k2].sum 1 1099511627776
   ·simp[a2] at hV ⊢;exact⟨k2+1,by omega,m9,by rw[m4,←hV],by simp⟩
   simp[a2,hc.2] at hV ⊢;exact⟨k2+1,by omega,m9,by rw[m4,←hV],by simp⟩
 have hE:=hk.fin (by
  have:=hk.le;by_cases h1:k2<f.alters.length
  ·exact .inr fun h=>hc ⟨h1,h⟩
  ·exact .inl (by omega))
 rw[wK] at hE;simp[acI,Ks,hE] at hc ⊢;rw[if_neg (by simpa using hc)];clear hc hE hk;refine aP.forLoop (α:=Nat) (fun k vr vo=>AccOK e3 (gl r f) f.acts.length k∧vr=[.int (eX e3 (gl r f) k),.int k]∧vo=[]) (fun k=>f.acts.length-k) 0 ?_ ?_
 ·exact⟨.start ..,by simp[eX],by simp⟩
 rintro k3 vr vo ⟨hk,rfl,rfl⟩;by_cases hc:k3<f.acts.length∧eX e3 (gl r f) k3=0
 ·have hw:=bn hc.1 (by omega);have m9:=hk.next hc.2 hc.1
  have ez:e3=0:=rR fun he=>by
   have:=hk.ini he;subst this;exact he hc.2
  simp[acJ,Kt,hc,hw];refine⟨_,apX r hr f (Om ez) (by omega) (by omega) k3 hc.1,k3+1,by omega,m9,?_⟩;simp[eX]
 have hE:=hk.fin (by
  have:=hk.le;by_cases h1:k3<f.acts.length
  ·exact .inr fun h=>hc ⟨h1,h⟩
  ·exact .inl (by omega))
 rw[Xy] at hE;simp[acJ,Kt,hE] at hc ⊢;rw[if_neg (by simpa using hc)];clear hc hE hk;refine aP.forLoop (α:=Nat) (fun k vr vo=>AccOK e4 (iJ f) f.facts.length k∧vr=[.int (eX e4 (iJ f) k),.int k]∧vo=[]) (fun k=>f.facts.length-k) 0 ?_ ?_
 ·exact⟨.start ..,by simp[eX],by simp⟩
 rintro k4 vr vo ⟨hk,rfl,rfl⟩;by_cases hc:k4<f.facts.length∧eX e4 (iJ f) k4=0
 ·have hw:=bn hc.1 (by omega);have m9:=hk.next hc.2 hc.1;simp[acK,Ku,hc,hw];refine⟨_,apZ f (by omega) (by omega) k4 hc.1,k4+1,by omega,m9,?_⟩;simp[eX]
 have hE:=hk.fin (by
  have:=hk.le;by_cases h1:k4<f.facts.length
  ·exact .inr fun h=>hc ⟨h1,h⟩
  ·exact .inl (by omega))
 rw[ls] at hE;simp[acK,Ku,hE] at hc ⊢;intro a b;exact absurd b (hc a)
theorem PaperOK.noE {r:Realm}{f:File}(h:PaperOK r f):Ef r f=0:=by
 have hb:qD r f.bill=0:=by
  have hB:=h.bill;unfold qD;rw[if_neg (by simp[hB.realm]),if_neg (by simp[hB.who,hB.where_]),if_neg (by simpa using hB.range),if_neg (by simpa using hB.parts),if_neg (by simpa using hB.form)];split
  ·rename_i h4;obtain⟨u,hu,h5,h6⟩:=hB.usance h4;unfold FL;cases fe:r.usances.find? (yc f.bill.city f.bill.pay) with
   |some u=>rfl
   |none=>
    have:=vS.1 fe u hu;simp[yc,h5,h6] at this
  ·rfl
 unfold Ef;rw[if_neg (fun k=>k h.full),hb,h.signs,h.alters,h.acts,h.facts];simp[h.ne]
end Rm
namespace Rm
open Go Go.Proofs Cx
theorem vB {α:Type}[Inhabited α](l:List α){m i:Nat}(h:i<m):(l.take m).getD i default=l.getD i default:=by
 simp[aJ,eW,h]
theorem WI {α:Type}(key:α→Int)(n:Int):∀{l:List α},l.Pairwise (fun a b=>key a≤key b)→l.filter (fun a=>decide (key a≤n))=l.takeWhile (fun a=>decide (key a≤n))
 |[],_=>rfl
 |a::l,hp=>by
  rw[Vs] at hp;by_cases h:key a≤n
  ·rw[Vn,if_pos (by simpa using h),Vu,if_pos (by simpa using h),WI key n hp.2]
  ·rw[Vn,if_neg (by simpa using h),Vu,if_neg (by simpa using h),Lo];intro b hb;have:=hp.1 b hb;simp;omega
theorem ahc {f:File}(h:cK f.facts.length (iJ f)=0):f.facts.Pairwise mU:=by
 have nx:∀i (h1:i+1<f.facts.length),mU (f.facts[i]'(by omega)) f.facts[i+1]:=fun i h1=>by
  have h2:=pG h (i+1) h1;unfold iJ at h2;simp[show i<f.facts.length by omega,h1] at h2
  repeat' split at h2
  all_goals first|(cases h2;done)|skip
  rename_i e;simpa [show i<f.facts.length by omega,h1] using e
 rw[F5];intro i j hi hj cU;obtain⟨d,rfl⟩:∃d,j=i+1+d:=⟨j-i-1,by omega⟩
 clear cU
 induction d with
 |zero=>exact nx i hj
 |succ d ih=>
  have h1:=ih (by omega);have h2:=nx (i+1+d) (by omega);have e:i+1+(d+1)=i+1+d+1:=by omega
  simp only[e];unfold mU at h1 h2 ⊢;omega
theorem ahb {l:List Fact}{n:Nat}(hp:l.Pairwise mU)(hr:∀x,x∈l→wi x.kind 0 4=true∧au x.at_ n=true∧wi x.n 0 1=true)(f:File)(hf:f.facts=l)(hs:f.signs.length=n):cK f.facts.length (iJ f)=0:=by
 rw[ug];intro k hk;rw[hf] at hk;have e:f.facts.getD k default=l[k]:=by rw[hf];simp[hk]
 obtain⟨a,b,c⟩:=hr _ (de hk);unfold iJ;simp only[e,a,b,c,hs];by_cases k0:k=0
 ·simp[k0]
 ·have e1:f.facts.getD (k-1) default=l[k-1]:=by rw[hf];simp[show k-1<l.length by omega]
  have hh:=F5.1 hp (k-1) k (by omega) hk (by omega);simp only[e1,k0,if_false,hh,if_true];simp
structure Pre (f g:File) (m:Nat):Prop where
 bill:g.bill=f.bill
 signs:g.signs=f.signs.take m
 le:m≤f.signs.length
theorem Pre.len {f g:File}{m:Nat}(h:Pre f g m):g.signs.length=m:=by rw[h.signs,dE];have:=h.le;omega
theorem Pre.at_ {f g:File}{m:Nat}(h:Pre f g m){n:Int}(h0:0≤n)(hn:n<m):bD g n=bD f n:=by
 unfold bD;rw[h.signs];exact vB f.signs (by omega)
theorem Pre.stands {f g:File}{m:Nat}(h:Pre f g m){n:Int}(h0:0≤n)(hn:n<m)(part:Int):kC g n part=kC f n part:=by
 unfold kC;rw[h.at_ h0 hn]
theorem Pre.bears {f g:File}{m:Nat}(h:Pre f g m){i:Nat}(hi:i<m)(ks:List Int):sm g i ks=sm f i ks:=by
 unfold sm;rw[h.at_ (by omega) (by omega)];cases hw:wi (bD f i).for_ 0 ((i:Int)-1)
 ·rfl
 ·simp[wi] at hw;rw[h.stands (by omega) (by omega),h.at_ (n:=(bD f i).for_) (by omega) (by omega)]
theorem Pre.signE {r:Realm}{f g:File}{m:Nat}(h:Pre f g m){i:Nat}(hi:i<m):Rm.signE r g i=Rm.signE r f i:=by
 have hs:g.signs.getD i default=f.signs.getD i default:=by rw[h.signs];exact vB _ hi
 have hd:gq g i=gq f i:=by
  unfold gq;rw[h.bill];by_cases i0:i=0
  ·simp only[i0,if_true]
  ·rw[if_neg i0,if_neg i0,h.signs,vB _ (show i-1<m by omega)]
 have hf:lq r g i=lq r f i:=by
  unfold lq;rw[hs,h.bill]
  congr 1
  funext ks;exact h.bears hi ks
 have ht:∀s,mJ g i s=mJ f i s:=fun s=>by
  unfold mJ;rw[h.signs,Vv,show min i m=i by omega]
 unfold Rm.signE;simp only[hs,hd,hf,ht,h.bill]
theorem Pre.actB {r:Realm}{f g:File}{m:Nat}(h:Pre f g m){a:Act}(aY:0≤a.at_→a.at_<f.signs.length→a.at_<m):Rm.actB r g a=Rm.actB r f a:=by
 have hm:=h.le;have e:au a.at_ g.signs.length=au a.at_ f.signs.length:=by
  rw[h.len,nG];simp[au];intro h0;exact⟨fun _=>by omega,fun h1=>aY h0 h1⟩
 have e1:mV g a=mV f a:=by
  unfold mV;rw[e];cases hi:au a.at_ f.signs.length
  ·rfl
  ·simp[au] at hi;rw[h.stands hi.1 (aY hi.1 hi.2)]
 have e2:va g a=va f a:=by
  unfold va;rw[e1];cases ha:mV f a
  ·rfl
  ·unfold mV at ha;simp[au] at ha;rw[h.at_ ha.1.1 (aY ha.1.1 ha.1.2)]
 unfold Rm.actB;rw[e1,e2]
theorem Pre.leastDay {r:Realm}{f g:File}{m:Nat}(h:Pre f g m){a:Act}(aY:a.at_≠-1→0≤a.at_∧a.at_<m){i:Nat}(hp:i≠0→g.acts.getD (i-1) default=f.acts.getD (i-1) default):Rm.leastDay g i a=Rm.leastDay f i a:=by
 unfold Rm.leastDay;rw[h.bill];have e:(if a.at_=-1 then f.bill.day else max f.bill.day (bD g a.at_).day)=(if a.at_=-1 then f.bill.day else max f.bill.day (bD f a.at_).day):=by
  by_cases e1:a.at_=-1
  ·rw[if_pos e1,if_pos e1]
  ·rw[if_neg e1,if_neg e1,h.at_ (aY e1).1 (aY e1).2]
 simp only[e];by_cases i0:i=0
 ·rw[if_pos i0,if_pos i0]
 ·rw[if_neg i0,if_neg i0,hp i0]
theorem VL (f:File)(day:Int):∃m,Pre f (bz f day) m∧(∀k (hk:k<f.signs.length),k<m→f.signs[k].day≤day)∧(∀hk:m<f.signs.length,day<f.signs[m].day):=by
 obtain⟨m,hm,e,aO,du⟩:=ya (fun s:Sign=>decide (s.day≤day)) f.signs;exact⟨m,⟨rfl,e,hm⟩,fun k hk hkm=>by simpa using aO k hk hkm,fun hk=>by simpa using du hk⟩
theorem PaperOK.at_ {r:Realm}{f:File}(h:PaperOK r f){day:Int}(hd:f.bill.day≤day):PaperOK r (bz f day):=by
 obtain⟨m,hP,CX,pI⟩:=VL f day;have hm:=hP.le;have OD:=h.sorted;have ay:0<f.signs.length:=F2.2 h.ne;have XX:0<m:=by
  refine Nat.pos_of_ne_zero fun e=>?_;subst e;have h1:=pI ay;have h2:=(h.sign 0 ay)
  have h3:=pG h.signs 0 ay;unfold signE at h3;simp[ay,gq] at h3
  repeat' split at h3
  all_goals first|(cases h3;done)|skip
  rename_i hh _;simp[wi] at hh;omega
 have Np:∀i (hi:i<f.acts.length),f.acts[i].day≤day→0≤f.acts[i].at_→f.acts[i].at_<f.signs.length→f.acts[i].at_<m:=by
  intro i hi Xu h0 h1;have hA:=h.act i hi;have hl:(bD f f.acts[i].at_).day≤leastDay f i f.acts[i]:=by
   unfold leastDay;rw[if_neg (show ¬f.acts[i].at_=-1 by omega)];simp only;split<;>omega
  have h3:f.acts[i].at_.toNat<f.signs.length:=by omega
  have h4:bD f f.acts[i].at_=f.signs[f.acts[i].at_.toNat]:=by simp[bD,h3]
  rw[h4] at hl;have uw:=hA.day.1;refine rR fun hc=>?_;have l7:m<f.signs.length:=by omega
  have h5:=pI l7;have h6:f.signs[m].day≤f.signs[f.acts[i].at_.toNat].day:=by
   by_cases e:m=f.acts[i].at_.toNat
   ·simp only[e];exact Int.le_refl _
   ·exact F5.1 OD.signs m _ l7 h3 (by omega)
  omega
 have hlen:=hP.len;refine⟨?_,h.bill,?_,?_,?_,?_,?_⟩
 ·obtain⟨⟨a1,a2⟩,a3,a4⟩:=h.full;refine⟨⟨by omega,iy (rT _ _) a2⟩,?_,iy (rT _ _) a4⟩;exact iy (ym _).length_le a3
 ·intro e;rw[e] at hlen;simp at hlen;omega
 ·rw[ug];intro k hk;rw[hlen] at hk;rw[hP.signE hk];exact pG h.signs k (by omega)
 ·have akR:f.alters.Pairwise fun a b=>a.at_≤b.at_:=by
   refine Qo (·.at_) f.alters fun i hi=>?_;have h1:=pG h.alters (i+1) hi;unfold iI at h1;simp[hi,show i<f.alters.length by omega] at h1;split at h1
   ·cases h1
   rename_i hh;simp[wi] at hh;omega
  have hE:(bz f day).alters=f.alters.takeWhile fun a=>decide (a.at_≤(m:Int)):=by
   have h1:=WI (fun a:Alter=>a.at_) m akR;rw[←h1,←hlen];rfl
  obtain⟨n,hn,e,aO,_⟩:=ya (fun a:Alter=>decide (a.at_≤(m:Int))) f.alters;rw[e] at hE;rw[ug,hE,dE];intro k hk;have h1:=pG h.alters k (by omega);have aW:k<f.alters.length:=by omega
  have h2:=aO k aW (by omega);have e1:(bz f day).alters.getD k default=f.alters.getD k default:=by rw[hE];exact vB _ (by omega)
  have e2:(bz f day).alters.getD (k-1) default=f.alters.getD (k-1) default:=by rw[hE];exact vB _ (by omega)
  unfold iI at h1 ⊢;simp only[e1,e2,hlen];have e3:f.alters.getD k default=f.alters[k]:=by simp[aW]
  simp only[e3] at h1 ⊢;generalize (if k=0 then(0:Int) else(f.alters.getD (k-1) default).at_)=L at*;split at h1
  ·cases h1
  rename_i hh;rw[if_neg]
  ·exact h1
  ·simp[wi] at hh h2 ⊢;omega
 ·obtain⟨n,hn,e,aO,_⟩:=ya (fun a:Act=>decide (a.day≤day)) f.acts;have hE:(bz f day).acts=f.acts.take n:=e;rw[ug,hE,dE];intro k hk;have aW:k<f.acts.length:=by omega
  have h1:=pG h.acts k aW;have h2:f.acts[k].day≤day:=by simpa using aO k aW (by omega)
  have e1:(bz f day).acts.getD k default=f.acts.getD k default:=by rw[hE];exact vB _ (by omega)
  have e2:(bz f day).acts.getD (k-1) default=f.acts.getD (k-1) default:=by rw[hE];exact vB _ (by omega)
  have e3:f.acts.getD k default=f.acts[k]:=by simp[aW]
  have hA:=h.act k aW;have aY:=Np k aW h2;have e4:leastDay (bz f day) k f.acts[k]=leastDay f k f.acts[k]:=hP.leastDay (r:=r) (fun ay=>⟨(yp hA.fits ay).1,aY (yp hA.fits ay).1 (yp hA.fits ay).2⟩) (fun _=>e2);have e5:=hP.actB (r:=r) aY;unfold gl at h1 ⊢;simp only[e1,e3] at h1 ⊢;rw[e4,e5];exact h1
 ·refine ahb (n:=m) ((ahc h.facts).sublist List.filter_sublist) (fun x hx=>?_) (bz f day) rfl hlen;obtain⟨h1,h2⟩:=cY.1 hx;obtain⟨k,hk,rfl⟩:=j7 h1;have h3:=pG h.facts k hk;unfold iJ at h3;simp[hk] at h3;have h4:(FK day f.signs).length=m:=hlen;unfold qK at h2;rw[h4] at h2;cases b1:wi f.facts[k].kind 0 4
  ·simp[b1] at h3
  cases b2:wi f.facts[k].n 0 1
  ·simp[b1,b2] at h3
  exact⟨rfl,h2,rfl⟩
end Rm
namespace Rm
open Go Go.Proofs Cx
end Rm
namespace Rm
open Go Go.Proofs Cx
theorem LP {f:File}{x:Int}{a:Act}(h:a∈(bz f x).acts):a.day≤x∧a∈f.acts:=⟨by simpa using adU (p:=fun s:Act=>decide (s.day≤x)) (l:=f.acts) h,(ym (fun s:Act=>decide (s.day≤x))).subset h⟩
theorem VN {f:File}{x:Int}{a:Sign}(h:a∈(bz f x).signs):a.day≤x∧a∈f.signs:=⟨by simpa using adU (p:=fun s:Sign=>decide (s.day≤x)) (l:=f.signs) h,(ym (fun s:Sign=>decide (s.day≤x))).subset h⟩
end Rm
namespace Rm
open Go Go.Proofs Cx
theorem PaperOK.app {r:Realm}{g:File}(h:PaperOK r g){L:List Act}{d:Int}(hl:(g.acts++L).length≤100)(hb:g.bill.day≤d)(hd:d≤100000)(hold:∀a,a∈g.acts→a.day≤d)
 (hL:∀a,a∈L→a.day=d∧wi a.part 0 (g.bill.parts-1)=true∧au a.city r.cities.length=true∧wi a.kind 0 9=true∧actB r g a=true∧(a.at_≠-1→(bD g a.at_).day≤d)):PaperOK r {g with acts:=g.acts++L}:=by
 refine⟨⟨h.full.1,hl,h.full.2.2⟩,h.bill,h.ne,h.signs,h.alters,?_,h.facts⟩;rw[ug];intro k hk;show gl r {g with acts:=g.acts++L} k=0;have fX:k<(g.acts++L).length:=hk
 have aO:∀a,a∈g.acts++L→a.day≤d:=fun a ha=>by
  rcases dy.1 ha with ha|ha
  ·exact hold a ha
  ·exact Int.le_of_eq (hL a ha).1
 by_cases ah:k<g.acts.length
 ·have h1:=pG h.acts k ah;have e1:(g.acts++L).getD k default=g.acts.getD k default:=by simp only[aJ,jF ah]
  have e2:(g.acts++L).getD (k-1) default=g.acts.getD (k-1) default:=by simp only[aJ,jF (show k-1<g.acts.length by omega)]
  have e3:leastDay {g with acts:=g.acts++L} k (g.acts.getD k default)=leastDay g k (g.acts.getD k default):=by
   unfold leastDay;simp only[e2];rfl
  unfold gl at h1 ⊢;simp only[e1,e3];exact h1
 ·have hm:(g.acts++L).getD k default∈L:=by
   simp only[aJ,kI (show g.acts.length≤k by omega)];rw[jG] at fX;rw[bA (by omega),iz];exact de _
  obtain⟨c1,c2,c3,c4,c5,c6⟩:=hL _ hm
  have hp:k≠0→((g.acts++L).getD (k-1) default).day≤d:=fun h0=>by
   refine aO _ ?_;have:k-1<(g.acts++L).length:=by omega
   simp only[aJ,bA this,iz];exact de _
  unfold gl;simp only;generalize (g.acts++L).getD k default=a at*;have NU:leastDay {g with acts:=g.acts++L} k a≤d:=by
   unfold leastDay;simp only;have h2:(if a.at_=-1 then g.bill.day else max g.bill.day (bD {g with acts:=g.acts++L} a.at_).day)≤d:=by
        split
        ·exact hb
        ·rename_i ay;have:(bD {g with acts:=g.acts++L} a.at_).day≤d:=c6 ay;omega
   split
   ·exact h2
   ·rename_i h0;have:=hp h0;omega
  rw[if_neg (by simp[c2]),if_neg (by simp[c3,c4]),if_neg (by simp only[Bool.not_eq_false];exact c5),if_neg];simp[wi];omega
theorem ahj {r:Realm}(h:jd r=0){n:Int}(hn:0≤n∧n<r.firms.length):au (r.firms.getD n.toNat default).city r.cities.length=true:=by
 unfold jd at h;rw[KR] at h;have h1:=h (er (eM r) 200 (mY r)) (by simp);unfold er at h1;split at h1
 ·cases h1
 have h2:=ug.1 h1 n.toNat (by simp[eM];omega);have h3:=(zG h2).2;simp only[mY,ao] at h3;exact h3.1
theorem Sf {g:File}{x:Lost}{held:List Int}{day:Int}{i:Nat}(hi:i<g.signs.length):oO g x held day i=true↔(g.signs[i].kind=2∧g.signs[i].part=x.part)∧¬(i:Int)∈held∧jB g.acts i day=false:=by
 unfold oO;rw[adE];have:au (i:Int) g.signs.length=true:=by simp[au];omega
 have hg:g.signs.getD i default=g.signs[i]:=by simp[hi]
 rw[this,hg];simp[hasB,and_assoc];intro _ _ _;exact⟨fun h1 hm=>h1 _ hm rfl,fun h1 y hy e=>h1 (e▸hy)⟩
theorem ard {r:Realm}{f:File}{x:Lost}{day:Int}(h:PaperOK r f)(hb:f.bill.day≤day)(hd:day≤100000)(hp:au x.part f.bill.parts=true)(jN:0≤x.by_∧x.by_<r.firms.length)(hl:(eg r f x day).acts.length≤100):PaperOK r (eg r f x day):=by
 have hg:=h.at_ hb;refine hg.app (d:=day) hl hb hd (fun a ha=>(LP ha).1) (fun a ha=>?_);unfold ld at ha;obtain⟨i,hi,rfl⟩:=dM.1 ha;obtain⟨h1,h2⟩:=cY.1 hi;have h1:=bP.1 h1;obtain⟨⟨k1,k2⟩,k3,k4⟩:=(Sf h1).1 h2;have DN:bD (bz f day) (i:Int)=(bz f day).signs[i]:=by simp[bD,h1]
 have aY:au (i:Int) (bz f day).signs.length=true:=by simp[au];omega
 have aT:0≤x.part∧x.part<f.bill.parts:=by simpa [au] using hp
 refine⟨rfl,?_,ahj h.bill.realm jN,rfl,?_,fun _=>?_⟩
 ·show wi x.part 0 (f.bill.parts-1)=true;simp[wi];omega
 ·have sU:au x.by_ r.firms.length=true:=by simp[au];omega
  have bM:kC (bz f day) (i:Int) x.part=true:=by unfold kC;rw[DN,k2];simp
  unfold actB yq mV;simp[Bt,sU,aY,bM]
 ·show(bD (bz f day) (i:Int)).day≤day;rw[DN];exact(VN (de h1)).1
theorem adC (l L:List Act)(i day:Int):jB (l++L) i day=(jB l i day||jB L i day):=by unfold jB;rw[List.any_append]
theorem adD (r:Realm)(g:File)(x:Lost)(held:List Int)(day:Int)(k i:Nat):jB (ld r g x held day k) (i:Int) day=(decide (i<k)&&oO g x held day i):=by
 unfold jB ld;rw[List.any_map,nG,mQ];constructor
 ·rintro⟨j,hj,hs⟩;obtain⟨h1,h2⟩:=cY.1 hj;have h1:=bP.1 h1;have e:j=i:=by simp[tE,Bt] at hs;omega
  subst e;simp[h1,h2]
 ·intro h;simp at h;exact⟨i,cY.2 ⟨bP.2 h.1,h.2⟩,by simp[tE,Bt]⟩
theorem afX (day:Int)(l L:List Act)(hL:∀a,a∈L→a.kind=7):kg day (l++L)=kg day l:=by
 unfold kg;rw[FY];generalize l.foldl (ua day) (0,false)=s
 induction L generalizing s with
 |nil=>rfl
 |cons a L ih=>
  rw[FZ];have:ua day s a=s:=by
   unfold ua;rw[if_neg];have:=hL a (dq ..);simp[wq,this]
  rw[this];exact ih (fun b hb=>hL b (dj _ hb)) s
theorem arc {r:Realm}{g:File}{x:Lost}{held:List Int}{day:Int}{k:Nat}:∀a,a∈ld r g x held day k→a.kind=7:=by
 intro a ha;unfold ld at ha;obtain⟨i,_,rfl⟩:=dM.1 ha;rfl
theorem ao3 {r:Realm}{f:File}{x:Lost}{day part:Int}(ay:part≠x.part):dG (eg r f x day) part day=dG (bz f day) part day:=by
 unfold dG;have e1:kg day (eg r f x day).acts=kg day (bz f day).acts:=afX day _ _ arc;have e2:gp (eg r f x day) part day=gp (bz f day) part day:=by
  unfold gp;apply Ln;intro i hi;have hi:=bP.1 hi;unfold lC;show(_&& !jB ((bz f day).acts++_) _ _)=_;rw[adC,adD];have cw:i<(bz f day).signs.length:=hi;by_cases hb:oO (bz f day) x (dG f x.part x.day).signs day i=true
  ·have:=((Sf cw).1 hb).1.2;have hg:(eg r f x day).signs.getD i default=(bz f day).signs[i]:=by show(bz f day).signs.getD i default=_;simp[cw]
   have gL:(bz f day).signs.getD i default=(bz f day).signs[i]:=by simp[cw]
   rw[hg,gL];have hp:¬(bz f day).signs[i].part=part:=fun e=>ay (by rw[←e,this]);simp[hp]
  ·have:oO (bz f day) x (dG f x.part x.day).signs day i=false:=by simpa using hb
   rw[this,tL,qt];rfl
 have e3:dY (eg r f x day) part day=dY (bz f day) part day:=by unfold dY;rw[e2];rfl
 rw[e1,e3];rfl
theorem V9 (p:Int×Bool):∀(l:List (Int×Sign)) (c:Chain),(∀y,y∈l→0≤y.1)→(eZ p c l).broken=-1→(eZ p c l).signs=c.signs++l.map (·.1)
 |[],c,_,_=>by simp[eZ]
 |y::l,c,h0,hb=>by
  unfold eZ at hb ⊢;split
  ·rename_i ur;rw[if_pos ur] at hb;have:=h0 y (dq ..);simp at hb;omega
  ·rename_i ur;rw[if_neg ur] at hb;rw[V9 p l _ (fun z hz=>h0 z (dj _ hz)) hb];simp[gW]
structure SameC (a b:Chain):Prop where
 signs:a.signs=b.signs
 holder:a.holder=b.holder
 broken:a.broken=b.broken
 bearer:a.bearer=b.bearer
 agent:a.agent=b.agent
theorem V8 (p q:Int×Bool):∀(l:List (Int×Sign)) (a b:Chain),SameC a b→SameC (eZ p a l) (eZ q b l)
 |[],a,b,h=>h
 |y::l,a,b,h=>by
  have hb:brk a y.2=brk b y.2:=by unfold brk;rw[h.bearer,h.holder]
  unfold eZ;rw[hb];split
  ·exact⟨h.signs,h.holder,rfl,h.bearer,h.agent⟩
  ·exact V8 p q l _ _ ⟨by simp[gW,h.signs],rfl,h.broken,rfl,by simp[gW,h.agent]⟩
theorem V6 (p:Int×Bool):∀(l:List (Int×Sign)) (c:Chain),c.bearer=(c.holder==-1)→(eZ p c l).bearer=((eZ p c l).holder==-1)
 |[],c,h=>h
 |y::l,c,h=>by
  unfold eZ;split
  ·exact h
  ·exact V6 p l _ rfl
theorem agX {p q:Nat→Bool}{m n:Nat}(N1:m≤n)(h1:∀i,i<m→p i=q i)(h2:∀i,m≤i→i<n→q i=false):(List.range m).filter p=(List.range n).filter q:=by
 obtain⟨d,rfl⟩:∃d,n=m+d:=⟨n-m,by omega⟩
 rw[List.range_add,BK];have e1:(List.range m).filter p=(List.range m).filter q:=Ln fun i hi=>h1 i (bP.1 hi)
 have e2:((List.range d).map fun x=>m+x).filter q=[]:=by
  rw[Lo];intro i hi;obtain⟨j,hj,rfl⟩:=dM.1 hi;have:=bP.1 hj;rw[h2 (m+j) (by omega) (by omega)];decide
 rw[e1,e2,lf]
theorem ao5 {r:Realm}{f:File}{x:Lost}{day:Int}(h:PaperOK r f)(hd:x.day≤day)(hh:pP f x=true)(jN:0≤x.by_)(du:∀n,n∈(dG f x.part x.day).signs→tF f n day=false):
 SameC (dG (eg r f x day) x.part day) (dG f x.part x.day)∧(dG (eg r f x day) x.part day).bearer=false:=by
 simp only[pP,ao,decide_eq_true_eq] at hh;obtain⟨hh1,Is⟩:=hh
 have wX:∀y,y∈dY f x.part x.day→0≤y.1:=fun y hy=>by
  unfold dY at hy;obtain⟨i,_,rfl⟩:=dM.1 hy;simp
 have alh:(dG f x.part x.day).signs=(gp f x.part x.day).map fun(i:Nat)=>(i:Int):=by
  have:=V9 (kg x.day f.acts) (dY f x.part x.day) (lh f) wX Is;unfold dG;rw[this];simp[lh,dY]
 have cQ:∀i:Nat,(i:Int)∈(dG f x.part x.day).signs↔i∈gp f x.part x.day:=fun i=>by
  rw[alh,dM];constructor
  ·rintro⟨j,hj,e⟩;have:j=i:=by omega
   exact this▸hj
  ·intro hi;exact⟨i,hi,rfl⟩
 obtain⟨m,hP,CX,pI⟩:=VL f day;have hlen:=hP.len;have OD:=h.sorted
 have NL:∀i,i<m→(eg r f x day).signs.getD i default=f.signs.getD i default:=fun i hi=>by
  show(bz f day).signs.getD i default=_;rw[hP.signs];exact vB _ hi
 have alp:∀i:Nat,jB (bz f day).acts i day=true→jB f.acts i day=true:=fun i hi=>by
  unfold jB at hi ⊢;obtain⟨a,ha,hs⟩:=mQ.1 hi;exact mQ.2 ⟨a,(LP ha).2,hs⟩
 have XA:gp (eg r f x day) x.part day=gp f x.part x.day:=by
  unfold gp;have oc:(eg r f x day).signs.length=m:=hlen;rw[oc];refine agX hP.le (fun i hi=>?_) (fun i hi aY=>?_)
  ·have cw:i<(bz f day).signs.length:=by omega
   rw[NL i hi];have aj8:lC (eg r f x day) x.part day i (f.signs.getD i default)=true↔lC f x.part x.day i (f.signs.getD i default)=true:=by
        have fe:i<f.signs.length:=by have:=hP.le;omega
        have hgi:(bz f day).signs[i]=f.signs.getD i default:=by
         have h1:(bz f day).signs.getD i default=(bz f day).signs[i]:=by simp[cw]
         rw[←h1];exact NL i hi
        have OB:=Sf (x:=x) (held:=(dG f x.part x.day).signs) (day:=day) cw;rw[hgi] at OB;have dI:(f.signs.getD i default).day≤day:=by
         have:=CX i fe hi;simpa [fe] using this
        have hE:lC (eg r f x day) x.part day i (f.signs.getD i default)=true↔((f.signs.getD i default).kind=2∧(f.signs.getD i default).part=x.part)∧jB (bz f day).acts i day=false∧oO (bz f day) x (dG f x.part x.day).signs day i=false:=by
         unfold lC;show(_&& !jB ((bz f day).acts++_) _ _)=true↔_;rw[adC,adD];simp[cw,and_assoc];intro _ _ _ _;simpa using dI
        rw[hE];constructor
        ·rintro⟨h1,h2,h3⟩
         have aY:(i:Int)∈(dG f x.part x.day).signs:=rR fun hc=>by
          rw[OB.2 ⟨h1,hc,h2⟩] at h3;cases h3
         exact(cY.1 ((cQ i).1 aY)).2
        ·intro he;have aY:i∈gp f x.part x.day:=cY.2 ⟨bP.2 fe,he⟩;have hn:=du _ ((cQ i).2 aY);rw[adE] at hn;have hib:au (i:Int) f.signs.length=true:=by simp[au];omega
         rw[hib,vO] at hn;unfold lC at he;simp only[ao,decide_eq_true_eq] at he;refine⟨he.1.1,?_,?_⟩
         ·cases hc:jB (bz f day).acts i day
          ·rfl
          ·rw[alp i hc] at hn;cases hn
         ·cases hc:oO (bz f day) x (dG f x.part x.day).signs day i
          ·rfl
          ·exact absurd ((cQ i).2 aY) (OB.1 hc).2.1
   rw[nG];exact aj8
  ·have h1:=pI (by omega);have h2:f.signs[m].day≤f.signs[i].day:=by
        by_cases e:m=i
        ·subst e;exact Int.le_refl _
        ·exact F5.1 OD.signs m i _ aY (by omega)
   unfold lC;have hg:f.signs.getD i default=f.signs[i]:=by simp[aY]
   rw[hg];have:decide (f.signs[i].day≤x.day)=false:=by simp;omega
   rw[this];simp
 have ajL:dY (eg r f x day) x.part day=dY f x.part x.day:=by
  unfold dY;rw[XA];apply tP;intro i hi;have:i<m:=by
   have h2:=XA▸hi;have h3:=bP.1 (cY.1 h2).1;have oc:(eg r f x day).signs.length=m:=hlen;omega
  rw[NL i this]
 have hS:SameC (dG (eg r f x day) x.part day) (dG f x.part x.day):=by
  unfold dG;rw[ajL];exact V8 _ _ _ _ _ ⟨rfl,rfl,rfl,rfl,rfl⟩
 refine⟨hS,?_⟩;rw[hS.bearer];have qN:(dG f x.part x.day).bearer=((dG f x.part x.day).holder==-1):=V6 _ _ _ rfl;rw[qN,hh1];simp;omega
end Rm
namespace Rm
open Go Go.Proofs Cx
theorem QS (l:List Int)(hl:l.length≤100000):aq T 15 [ints l,ints l] (.bool true):=by
 refine .of_tree rfl (lA 134 (by kernel_rfl)) asQ ?_;simp[TF];refine aP.scan l.length (fun _=>True) (fun k=>[.bool false,.int k]) (fun _=>[]) ?_ (fun k hk hj ho=>?_) (fun k hk hj ho=>absurd trivial ho) (fun hj=>?_)
 ·simp
 ·have hw:=bn hk (by omega);simp[acL,Kw,hk,hw]
 ·simp[acL,Kw]
theorem ap2 (c:Chain)(h1:c.signs.length≤100000)(h2:c.late.length≤100000):aq T 11 [mW c,mW c] (.bool true):=by
 refine .of_tree rfl (lA 133 (by kernel_rfl)) asR ?_;simp[TE];refine⟨_,QS c.signs h1,?_⟩;simp;exact QS c.late h2
theorem aeR {f:File}(h:f.OK)(day:Int):(bz f day).OK:=by
 obtain⟨h1,⟨h2,iK⟩,⟨h3,eF⟩,⟨h4,m3⟩,⟨h5,zN⟩⟩:=h;refine⟨h1,⟨?_,fun y hy=>iK y (VN hy).2⟩,⟨?_,fun y hy=>eF y (cY.1 hy).1⟩,⟨?_,fun y hy=>m3 y (LP hy).2⟩,⟨?_,fun y hy=>zN y (cY.1 hy).1⟩⟩
 ·exact iy (ym _).length_le h2
 ·exact iy (rT _ _) h3
 ·exact iy (ym _).length_le h4
 ·exact iy (rT _ _) h5
theorem arb {r:Realm}(hr:r.OK){f:File}(h:f.OK)(hs:f.signs.length≤100000)(ha:f.acts.length≤100000){x:Lost}(hx:x.OK)(jN:0≤x.by_∧x.by_<r.firms.length){day:Int}(hd:aN day):(eg r f x day).OK:=by
 obtain⟨h1,h2,h3,⟨h4,m3⟩,h5⟩:=aeR h day;have hlen:(bz f day).signs.length≤f.signs.length:=(ym _).length_le;have wQ:(bz f day).acts.length≤f.acts.length:=(ym _).length_le;refine⟨h1,h2,h3,⟨?_,fun y hy=>?_⟩,h5⟩
 ·have:=Sg r (bz f day) x (dG f x.part x.day).signs day (bz f day).signs.length;rw[Pr];simp only[eg,jG];omega
 ·rcases dy.1 hy with hy|hy
  ·exact m3 y hy
  ·unfold ld at hy;obtain⟨i,hi,rfl⟩:=dM.1 hy;have hi:=bP.1 (cY.1 hi).1;obtain⟨x1,x2,x3,x4,x5,_⟩:=hx;have hc:aN (r.firms.getD x.by_.toNat default).city:=by
        have hb:x.by_.toNat<r.firms.length:=by omega
        have:r.firms.getD x.by_.toNat default=r.firms[x.by_.toNat]:=by simp[hb]
        rw[this];exact(hr.2.2.2.1.2 _ (de hb)).1
   have c7:∀n:Int,-10≤n→n≤1000000→aN n:=fun n a b=>by unfold aN;omega
   exact⟨c7 7 (by decide) (by decide),x3,c7 (-1) (by decide) (by decide),x2,c7 (i:Int) (by omega) (by omega),c7 0 (by decide) (by decide),hd,hc,c7 0 (by decide) (by decide)⟩
set_option maxRecDepth 10000 in
theorem aek (r:Realm)(hr:r.OK)(aD:Int)(f:File)(l6:f.OK)(x:Lost)(hx:x.OK)(day:Int)(hd:aN day):
 aq T 3 [aZ r,.int aD,aX f,fb x,.int day] (.bool true):=by
 refine .of_tree rfl (lA 0 (by kernel_rfl)) arT ?_;simp[SG];refine⟨_,amf,_,al6 r f x hr,?_⟩;cases hg:CS r f x
 ·simp
 obtain⟨e,L,hl⟩:=anK hr l6 hg;have G:=L.good;have Yj:=G.rightD.small;simp;refine⟨_,Zu r G.right (by have:=Yj.firms;omega) aD f G.few x hx e L.check (by omega) day,?_⟩;by_cases hc:100000<day∨j5 r aD f x e day≠1
 ·have:kK r aD f x e day=(zF,7):=by unfold kK;rw[if_pos hc]
  simp[this,zF,bO,signs,acts]
 have zS:j5 r aD f x e day=1∧day≤100000:=by
  simp only[not_or,Lh] at hc;exact⟨hc.2,by omega⟩
 by_cases hn:100<(eg r f x day).acts.length
 ·have:kK r aD f x e day=(zF,6):=by unfold kK;rw[if_neg hc,if_pos hn]
  simp[this,zF,bO,signs,acts]
 have ajn:kK r aD f x e day=(eg r f x day,0):=by unfold kK;rw[if_neg hc,if_neg hn]
 obtain⟨hE,hxd,NP⟩:=adx zS.1;obtain⟨Xx,l8,jN,_,_,wI⟩:=ami.1 hE;have hP:=L.ok Xx;have Nx:0≤x.by_∧x.by_<r.firms.length:=by simpa [au] using jN
 have bx:f.bill.day≤day:=by
  simp only[px,ao,gS,decide_eq_false_iff_not] at wI;omega
 have NN:=ard (x:=x) hP bx zS.2 l8 Nx (by omega);have ajV:=arb (day:=day) hr l6 (by have:=G.few.signs;omega) (by have:=G.few.acts;omega) hx Nx hd;have XI:=apV r Yj (eg r f x day) ajV;rw[NN.noE] at XI;have dt:(eg r f x day).signs.length≤1000:=by have:=NN.full;omega
 have XK:(eg r f x day).acts.length≤1000:=by have:=NN.full;omega
 have uz:=G.few.at_ day;have Ni:=RX f day (by have:=G.few.signs;omega) (by have:=G.few.acts;omega) (by have:=G.few.alters;omega) (by have:=G.few.facts;omega);simp[ajn,bO];refine⟨_,XI,?_⟩;simp;refine aP.forLoop (α:=Nat) (fun k vr vo=>k≤4∧vr=[.bool false,.int k]∧vo=[]) (fun k=>4-k) 0 ?_ ?_
 ·simp
 rintro k vr vo ⟨hk,rfl,rfl⟩;by_cases NS:(k:Int)<f.bill.parts∧k<4
 ·have hw:=bn NS.2 (by omega);simp[acB,Ki,NS,hw,show(k:Int)<4 by omega];by_cases nf:(k:Int)=x.part
  ·simp[nf];exact⟨k+1,by omega,by omega,by simp[←nf]⟩
  ·have jj:=yg (eg r f x day) k day XK dt;rw[ao3 nf] at jj;have ajr:=yg (bz f day) k day uz.acts uz.signs;have be:=MF (bz f day) k day;have sL:=uz.signs;simp[nf];refine⟨_,jj,_,Ni,_,ajr,_,ap2 _ (by omega) (by omega),?_⟩;simp;exact⟨k+1,by omega,by omega,by simp⟩
 have aki:(k:Int)<f.bill.parts→¬(k:Int)<4:=fun h h4=>NS ⟨h,by omega⟩;simp[acB,Ki];rw[if_neg (fun h=>aki h.1 h.2)];have jj:=yg f x.part x.day G.few.acts G.few.signs;have be:=MF f x.part x.day;have sL:=G.few.signs;refine⟨_,jj,?_⟩;have akE:=yg (eg r f x day) x.part day XK dt;have cm:=ao5 (r:=r) (day:=day) hP hxd NP Nx.1;simp only[pP,ao,decide_eq_true_eq] at NP;generalize hH:dG f x.part x.day=H at*;refine aP.scan H.signs.length (fun k=>tF f (H.signs.getD k 0) day=false) (fun k=>[.bool false,.int k]) (fun _=>[]) ?_ (fun k2 bE hj ho=>?_) (fun k2 bE hj ho=>?_) (fun hj=>?_)
 ·simp
 ·have hw:=bn bE (by omega);simp[bE] at ho;have bM:=So f H.signs[k2] day (by have:=G.few.acts;omega);rw[ho] at bM;simp[Q6,EB,bE,hw,ints,bO]
  first|exact⟨_,bM⟩|exact⟨_,bM,by simp⟩
 ·simp[bE] at ho;have bM:=So f H.signs[k2] day (by have:=G.few.acts;omega);rw[ho] at bM;simp[Q6,EB,bE,ints,bO]
  first|exact⟨_,bM⟩|exact⟨_,bM,by simp⟩
 ·have du:∀n,n∈H.signs→tF f n day=false:=fun n hn=>by
   obtain⟨k2,bE,rfl⟩:=j7 hn;have:=hj k2 bE;simpa [bE] using this
  obtain⟨hS,hb⟩:=cm du;generalize dG (eg r f x day) x.part day=N at*;have h1:=hS.signs;have OC:=QS H.signs (by omega);have alg:aq T 15 [ints N.signs,.list (H.signs.map .int)] (.bool true):=by rw[h1];exact OC
  simp[Q6,EB,ints,bO];refine⟨_,akE,?_⟩;simp[hS.holder,hS.broken,hS.agent,hb,NP];exact alg
end Rm
