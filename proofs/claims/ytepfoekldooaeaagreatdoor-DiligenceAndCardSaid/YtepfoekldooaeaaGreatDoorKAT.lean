/-
  Shared texts of this claim.
-/
import Derived.Test.YtepfoekldooaeaaGreatDoorKAQ
import Derived.Test.YtepfoekldooaeaaGreatDoorKAR
set_option linter.unusedSimpArgs false
set_option linter.unusedVariables false
namespace Rm
open Go Go.Proofs Cx
structure ActsF (f g:File):Prop where
 bill:g.bill=f.bill
 signs:g.signs=f.signs
 alters:g.alters=f.alters
 facts:g.facts=f.facts
theorem ActsF.fact {f g:File}(h:ActsF f g)(k s:Int):br g k s=br f k s:=by unfold br;rw[h.facts]
theorem ActsF.of_eq {f g:File}(h:g=f):ActsF f g:=by subst h;exact⟨rfl,rfl,rfl,rfl⟩
theorem ai7 (r:Realm)(forum q:Int){c c':Case}(h:ActsF (bB c.file c.day) (bB c'.file c'.day))(hs:c'.sign=c.sign)(hh:c'.holder=c.holder)(hd:c'.defence=c.defence)(hu:c'.due=c.due):
 dv r forum q c'=dv r forum q c:=by
 have e0:dX (aK c')=dX (aK c):=by unfold dX;rw[show(aK c').holder=(aK c).holder from hh]
 have e1:gk (aK c')=gk (aK c):=by
  unfold gk;rw[e0,show(aK c').sign=(aK c).sign from hs,show(aK c').holder=(aK c).holder from hh,show(aK c').due=(aK c).due from hu,show(aK c').file.signs=(aK c).file.signs from h.signs]
 have hv:dE r (aK c')=dE r (aK c):=by
  unfold dE;rw[e1];rw[show(aK c').sign=(aK c).sign from hs,show(aK c').file.signs=(aK c).file.signs from h.signs];split
  ·generalize (aK c).file.signs.getD (aK c).sign.toNat default=s;have h1:jS (aK c') s=jS (aK c) s:=by
        unfold jS;rw[show(aK c').file.bill=(aK c).file.bill from h.bill,show(aK c').defence=(aK c).defence from hd,show(aK c').due=(aK c).due from hu]
   have h2:ky r (aK c') s=ky r (aK c) s:=by
        have ha:wC (aK c').file (aK c').sign=wC (aK c).file (aK c).sign:=by
         unfold wC;rw[show(aK c').file.alters=(aK c).file.alters from h.alters,show(aK c').sign=(aK c).sign from hs]
        unfold ky;rw[ha,show(aK c').file.bill=(aK c).file.bill from h.bill,show(aK c').due=(aK c).due from hu]
   unfold jA;rw[h1,h2,e0,show(aK c').sign=(aK c).sign from hs];have hf:∀k s,br (aK c').file k s=br (aK c).file k s:=fun k s=>h.fact k s;rw[hf,hf,hf,hf,hf]
  ·rfl
 have hp:fV r forum (aK c')=fV r forum (aK c):=by
  have HS:cV (aK c').file (aK c').sign=cV (aK c).file (aK c).sign:=by
   unfold cV;rw[show(aK c').sign=(aK c).sign from hs,show(aK c').file.signs=(aK c).file.signs from h.signs]
  have ho:jj r forum (aK c')=jj r forum (aK c):=by
   unfold jj;rw[HS,show(aK c').file.bill=(aK c).file.bill from h.bill]
  have hb:lg r forum (aK c')=lg r forum (aK c):=by
   unfold lg;rw[HS]
  unfold fV;simp only[ho,hb]
 unfold dv ew;rw[hv,hp]
theorem ah3 {α:Type}{p:α→Bool}{l:List α}(h:∀x,x∈l→p x=true):l.takeWhile p=l:=by
 induction l with
 |nil=>rfl
 |cons x l ih=>rw[List.takeWhile_cons,if_pos (h x (by simp)),ih fun y hy=>h y (by simp[hy])]
theorem ah5 {α:Type}{p:α→Bool}{l:List α}{x:α}(h:x∈l.takeWhile p):p x=true:=by
 induction l with
 |nil=>cases h
 |cons y l ih=>
  rw[List.takeWhile_cons] at h;split at h
  ·rcases List.mem_cons.1 h with rfl|h
   ·assumption
   ·exact ih h
  ·cases h
structure Stab (f:File) (day:Int):Prop where
 signs:∀s,s∈f.signs→s.day≤day
 acts:∀s,s∈f.acts→s.day≤day
 alters:∀a,a∈f.alters→nQ f.signs.length a=true
 facts:∀a,a∈f.facts→j0 f.signs.length a=true
theorem Stab.at_ {f:File}{day d:Int}(h:Stab f day)(hd:day≤d):bB f d=f:=by
 have h1:qy d f.signs=f.signs:=ah3 fun s hs=>by simpa using Int.le_trans (h.signs s hs) hd
 have h2:WN d f.acts=f.acts:=ah3 fun s hs=>by simpa using Int.le_trans (h.acts s hs) hd
 unfold bB;rw[h1,h2,List.filter_eq_self.2 h.alters,List.filter_eq_self.2 h.facts]
theorem aC4 (f:File)(day:Int):Stab (bB f day) day:=by
 refine⟨fun s hs=>?_,fun s hs=>?_,fun a ha=>?_,fun a ha=>?_⟩
 ·simpa using ah5 hs
 ·simpa using ah5 hs
 ·exact(List.mem_filter.1 ha).2
 ·exact(List.mem_filter.1 ha).2
end Rm
namespace Rm
open Go Go.Proofs Cx
end Rm
namespace Rm
open Go Go.Proofs Cx
theorem afo {α:Type}(key:α→Int)(l:List α)(h:∀i (h1:i+1<l.length),key (l[i]'(by omega))≤key l[i+1]):l.Pairwise fun a b=>key a≤key b:=by
 rw[List.pairwise_iff_getElem];intro i j hi hj cN;obtain⟨d,rfl⟩:∃d,j=i+1+d:=⟨j-i-1,by omega⟩
 clear cN
 induction d with
 |zero=>exact h i hj
 |succ d ih=>exact Int.le_trans (ih (by omega)) (h (i+1+d) hj)
structure Sorted (f:File):Prop where
 signs:f.signs.Pairwise fun a b=>a.day≤b.day
 acts:f.acts.Pairwise fun a b=>a.day≤b.day
 aNY:∀s,s∈f.signs→0≤s.day
 aJM:∀a,a∈f.acts→0≤a.day
structure SignOK (r:Realm) (f:File) (i:Nat) (s:Sign):Prop where
 part:0≤s.part∧s.part≤f.bill.parts-1
 who:0≤s.who∧s.who<r.firms.length
 city:0≤s.city∧s.city<r.cities.length
 day:kI f i≤s.day∧s.day≤100000
 fits:Be r f i=true
 once:D9 f i s=false
theorem PaperOK.sign {r:Realm}{f:File}(h:PaperOK r f)(i:Nat)(hi:i<f.signs.length):SignOK r f i f.signs[i]:=by
 have h1:=OH h.signs i hi;have hs:f.signs.getD i default=f.signs[i]:=by simp[hi]
 unfold yR at h1;simp only[hs] at h1;split at h1
 ·cases h1
 rename_i a1;split at h1
 ·cases h1
 rename_i a2;split at h1
 ·cases h1
 rename_i a3;split at h1
 ·cases h1
 rename_i a4;split at h1
 ·cases h1
 rename_i a5;simp[wi,aF] at a1 a2 a3;exact⟨⟨by omega,by omega⟩,⟨by omega,by omega⟩,⟨by omega,by omega⟩,⟨by omega,by omega⟩,by simpa using a4,by simpa using a5⟩
structure y4 (r:Realm) (f:File) (i:Nat) (a:Act):Prop where
 part:0≤a.part∧a.part≤f.bill.parts-1
 city:0≤a.city∧a.city<r.cities.length
 kind:0≤a.kind∧a.kind≤9
 fits:rT r f a=true
 day:xD f i a≤a.day∧a.day≤100000
theorem PaperOK.act {r:Realm}{f:File}(h:PaperOK r f)(i:Nat)(hi:i<f.acts.length):y4 r f i f.acts[i]:=by
 have h1:=OH h.acts i hi;have hs:f.acts.getD i default=f.acts[i]:=by simp[hi]
 unfold qG at h1;simp only[hs] at h1;split at h1
 ·cases h1
 rename_i a1;split at h1
 ·cases h1
 rename_i a2;split at h1
 ·cases h1
 rename_i a3;split at h1
 ·cases h1
 rename_i a4;simp[wi,aF] at a1 a2 a4;exact⟨⟨by omega,by omega⟩,⟨by omega,by omega⟩,⟨by omega,by omega⟩,by simpa using a3,by omega⟩
theorem aaX (f:File)(i:Nat)(a:Act):f.bill.day≤xD f i a∧(i≠0→(f.acts.getD (i-1) default).day≤xD f i a):=by
 unfold xD;refine⟨?_,fun h=>?_⟩
 ·simp only;split<;>split<;>omega
 ·simp only[if_neg h];omega
theorem PaperOK.day {r:Realm}{f:File}(h:PaperOK r f):0≤f.bill.day∧f.bill.day≤100000:=by
 have:=h.bill.range;unfold vS at this;omega
theorem YC {r:Realm}{f:File}(h:PaperOK r f):∀i,i<f.signs.length→0≤kI f i
 |0,_=>by simp[kI];exact h.day.1
 |i+1,hi=>by
  have h1:=(h.sign i (by omega)).day.1;have h2:=YC h i (by omega);have e:kI f (i+1)=f.signs[i].day:=by simp[kI,show i<f.signs.length by omega]
  omega
theorem PaperOK.sorted {r:Realm}{f:File}(h:PaperOK r f):Sorted f:=by
 refine⟨afo (·.day) f.signs fun i hi=>?_,afo (·.day) f.acts fun i hi=>?_,fun s hs=>?_,fun a ha=>?_⟩
 ·have h1:=(h.sign (i+1) hi).day.1;have e:kI f (i+1)=f.signs[i].day:=by simp[kI,show i<f.signs.length by omega]
  rw[e] at h1;exact h1
 ·have h1:=(h.act (i+1) hi).day.1;have h2:=(aaX f (i+1) f.acts[i+1]).2 (by omega);have e:f.acts.getD (i+1-1) default=f.acts[i]:=by simp[show i<f.acts.length by omega]
  rw[e] at h2;exact Int.le_trans h2 h1
 ·obtain⟨i,hi,rfl⟩:=List.getElem_of_mem hs;exact Int.le_trans (YC h i hi) (h.sign i hi).day.1
 ·obtain⟨i,hi,rfl⟩:=List.getElem_of_mem ha;have h1:=(h.act i hi).day.1;have h2:=(aaX f i f.acts[i]).1;have:=h.day;omega
theorem Sorted.sign_there {f:File}(h:Sorted f){day:Int}{i:Nat}(hi:i<f.signs.length)(hd:f.signs[i].day≤day):i<(bB f day).signs.length∧∀h2:i<(bB f day).signs.length,(bB f day).signs[i]=f.signs[i]:=by
 obtain⟨m,hm,e,aR,eE⟩:=D8 (fun s:Sign=>decide (s.day≤day)) f.signs;have e':(bB f day).signs=f.signs.take m:=e;have jE:i<m:=by
  refine Classical.byContradiction fun hc=>?_;have sC:m<f.signs.length:=by omega
  have h1:=eE sC;have h2:f.signs[m].day≤f.signs[i].day:=by
   by_cases e2:m=i
   ·subst e2;exact Int.le_refl _
   ·exact List.pairwise_iff_getElem.1 h.signs m i sC hi (by omega)
  simp at h1;omega
 refine⟨by rw[e',List.length_take];omega,fun h2=>?_⟩;simp[e']
end Rm
namespace Rm
open Go Go.Proofs Cx
theorem akU (f:File)(day:Int):bB (bB f day) day=bB f day:=(aC4 f day).at_ (Int.le_refl _)
theorem ajd (r:Realm)(forum q:Int)(f:File)(sign due day:Int):dv r forum q ⟨bB f day,sign,sign,-1,due,day⟩=dv r forum q ⟨f,sign,sign,-1,due,day⟩:=
 ai7 r forum q (.of_eq (akU f day)) rfl rfl rfl rfl
theorem Xm {a b c:Int}(ha:du a)(hb:du b)(hc:du c):(gj [a,b,c]=0↔(a=0∨b=0)∨c=0)∧(gj [a,b,c]=1↔(a=1∧b=1)∧c=1)∧0≤gj [a,b,c]∧gj [a,b,c]≤2:=by
 rw[Nl];unfold du at*;refine⟨?_,?_,?_,?_⟩<;>repeat' split
 all_goals omega
theorem aip (r:Realm)(hr:r.OK)(forum:Int)(f:File)(uu:f.OK)(sign day:Int):ao T ab6 [bf r,.int forum,cm f,.int sign,.int day] (.bool true):=by
 refine .of_tree rfl ajP aEl ?_;simp[U1];obtain⟨d,hd,b,rfl,hb⟩:=XD r hr f uu;refine⟨_,ahn,_,hd,?_⟩;cases b
 ·simp
 obtain⟨hg,hP⟩:=hb rfl;have G:=YQ hr hg;by_cases P5:sign<0∨(f.signs.length:Int)≤sign
 ·simp[P5]
 have hs1:0≤sign∧sign<f.signs.length:=by omega
 obtain⟨k,rfl⟩:=Int.eq_ofNat_of_zero_le hs1.1;have hk:k<f.signs.length:=by omega
 by_cases uC:day<f.signs[k].day
 ·simp[hk,uC]
 have hth:=hP.sorted.sign_there hk (by omega:f.signs[k].day≤day);have ZP:=Eh r G.right G.rightD forum f k day G.few (Xy hP) (Xx hP);have ZX:=W6 r G.right G.rightD forum f day G.few;have Zn:=fun q=>Np r G.right forum q ⟨f,(k:Int),(k:Int),-1,eh r forum f day,day⟩ G.few;obtain⟨v,hv⟩:∃v,v=jM r forum f k day:=⟨_,rfl⟩
 have hvk:ix r forum f k day=⟨v.presented,if v.due≠-1 then gV (v.asked 8) v.protested else 2,if v.due≠-1 then gV (v.asked 11) v.notified else 2,gj [v.presented,if v.due≠-1 then gV (v.asked 8) v.protested else 2,if v.due≠-1 then gV (v.asked 11) v.notified else 2]⟩:=by
  unfold ix;rw[←hv];unfold DView.kept;have e1:v.sign=(k:Int):=by rw[hv];rfl
  have e2:v.file.signs.length=(bB f day).signs.length:=by rw[hv];rfl
  rw[if_neg (by rw[e1,e2];have:=hth.1;omega)]
 have hvd:v.due=eh r forum f day:=by rw[hv];rfl
 have Cb:∀q,v.asked q=dv r forum q ⟨f,(k:Int),(k:Int),-1,eh r forum f day,day⟩:=fun q=>by
  rw[hv];exact ajd r forum q f k (eh r forum f day) day
 have h1:=aBr v;have h2:=aBu v;have h3:=azK v;rw[hvk,Cb,Cb,hvd] at ZP;clear hv hvk Cb hvd;generalize v.presented=a at*;generalize v.protested=b at*;generalize v.notified=c at*;have hT:=fun q=>Nq (dv r forum q ⟨f,(k:Int),(k:Int),-1,eh r forum f day,day⟩);have Qh:=ah6 (s:=dv r forum 8 ⟨f,(k:Int),(k:Int),-1,eh r forum f day,day⟩) h2;have Qi:=ah6 (s:=dv r forum 11 ⟨f,(k:Int),(k:Int),-1,eh r forum f day,day⟩) h3;have j5:∀s:Said,∀x:Int,gV s x=if iM s=0∨x=1 then 1 else if iM s=2 then 2 else x:=fun _ _=>rfl;have xq:=j5 (dv r forum 8 ⟨f,(k:Int),(k:Int),-1,eh r forum f day,day⟩) b;have fD:=j5 (dv r forum 11 ⟨f,(k:Int),(k:Int),-1,eh r forum f day,day⟩) c;clear j5;simp[hk,uC];refine⟨_,ZP,?_⟩;generalize gV (dv r forum 8 ⟨f,(k:Int),(k:Int),-1,eh r forum f day,day⟩) b=u1 at*;generalize gV (dv r forum 11 ⟨f,(k:Int),(k:Int),-1,eh r forum f day,day⟩) c=u2 at*;by_cases pO:eh r forum f day=-1
 ·obtain⟨f1,f2,f3,f4⟩:=Xm h1 (show du 2 from .inr (.inr rfl)) (show du 2 from .inr (.inr rfl));simp[pO];generalize gj [a,2,2]=x at*;refine⟨⟨⟨⟨?_,?_⟩,f3⟩,f4⟩,_,ZX,?_⟩
  ·simpa using f1
  ·simpa using f2
  ·simp[pO]
 ·obtain⟨f1,f2,f3,f4⟩:=Xm h1 Qh Qi;simp[pO];generalize gj [a,u1,u2]=x at*;refine⟨⟨⟨⟨?_,?_⟩,f3⟩,f4⟩,_,ZX,?_⟩
  ·rw[Bool.eq_iff_iff];simpa [or_assoc] using f1
  ·rw[Bool.eq_iff_iff];simpa [and_assoc] using f2
  ·simp[pO];refine⟨_,Zn 8,_,hT 8,_,Zn 11,_,hT 11,?_⟩;generalize iM (dv r forum 8 ⟨f,(k:Int),(k:Int),-1,eh r forum f day,day⟩)=t1 at*;generalize iM (dv r forum 11 ⟨f,(k:Int),(k:Int),-1,eh r forum f day,day⟩)=t2 at*;have g1:¬t1=0∨u1=1:=by
        by_cases e:t1=0
        ·rw[if_pos (.inl e)] at xq;exact .inr xq
        ·exact .inl e
   have g2:¬t2=0∨u2=1:=by
        by_cases e:t2=0
        ·rw[if_pos (.inl e)] at fD;exact .inr fD
        ·exact .inl e
   have g3:¬t1=2∨¬u1=0:=by
        by_cases e:t1=2
        ·right;rw[if_pos e] at xq;split at xq<;>omega
        ·exact .inl e
   have g4:¬t2=2∨¬u2=0:=by
        by_cases e:t2=2
        ·right;rw[if_pos e] at fD;split at fD<;>omega
        ·exact .inl e
   simp[g1,g2,g3];exact fun e=>g4.resolve_left (fun h=>h e)
end Rm
