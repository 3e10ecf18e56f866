/-
  Shared texts of this claim.
-/
import Derived.Test.YtepfoekldooaeaaGreatDoorKAQ
set_option linter.unusedSimpArgs false
set_option linter.unusedVariables false
namespace Rm
open Go Go.Proofs Cx
theorem apU {r:Realm}{b:Bill}(hr:RightD r)(hc:jv r=0)(Pb:aF b.city r.cities.length=true)(dK:aF b.pay r.cities.length=true)(hd:dV b.day=true)(hk:b.tenor.kind=3)(hu:b.tenor.unit=0)
 (hn:dV b.tenor.n=true) {g:Int} (hg:0≤g∧g≤20000) (hs:b.tenor.n+g≤100000):qK r b (-1) g=rL r b.pay (b.tenor.n+g):=by
 have lq:=TO r hr.small;rw[hc] at lq;have ic:0≤b.tenor.n∧b.tenor.n≤100000:=by simpa [dV] using hn
 have oC:=ahy r hr.halts b.pay (b.tenor.n+g) (by simpa [aF] using dK) hr.cities (by omega) (by omega);have hb:ao T Is [bf r,dH b,.int (-1)] (.tup [.int b.tenor.n,.int 0]):=by
  refine .of_tree rfl wH yX ?_;simp[tM,hk]
 have h:ao T Ir [bf r,dH b,.int (-1),.int g] (.tup [.int (rL r b.pay (b.tenor.n+g)).1,.int (rL r b.pay (b.tenor.n+g)).2]):=by
  have m5:=H3 r b.city;have ZK:=H3 r b.pay;have uF:=Cj b.day;have ZL:=Cj b.tenor.n;have ZM:=Ng b.tenor;rw[Pb] at m5;rw[dK] at ZK;rw[hd] at uF;rw[hn] at ZL;rw[show MF b.tenor=false from by simp[MF,hk]] at ZM;have hw:IntKind.i64.wrap (b.tenor.n+g)=b.tenor.n+g:=bN (by omega);have m0:¬g<0:=by omega
  have gm:¬20000<g:=by omega
  have dZ:¬100000<b.tenor.n+g:=by omega
  refine .of_tree rfl Xt ahZ ?_;simp[MZ];refine⟨_,lq,?_⟩;simp;refine⟨_,m5,?_⟩;simp;refine⟨_,ZK,?_⟩;simp;refine⟨_,uF,?_⟩;simp[hk,hu,m0,gm];refine⟨_,ZM,?_⟩;simp;refine⟨_,hb,?_⟩;simp;refine⟨_,ZL,?_⟩;simp[hw,dZ];refine⟨_,oC,?_⟩;simp
 have h2:=h.det (W0 r hr b (-1) g);simp at h2;exact Prod.ext h2.1.symm h2.2.symm
def tR:Order:=⟨⟨#[103,101,110,101,118,97]⟩,false,[],[⟨8,⟨1,1,[]⟩⟩,⟨9,⟨2,15,[]⟩⟩,⟨10,⟨0,2,[]⟩⟩]⟩
def fw:Realm:=⟨[⟨#[102,114,97,110,99]⟩],[⟨⟨#[76,121,111,110]⟩,0,0,[],[],[]⟩],[⟨0⟩],[⟨⟨#[97]⟩,0,0⟩,⟨⟨#[98]⟩,0,0⟩],[tR],[],[],[]⟩
def qC:Bill:=⟨0,1,0,5,0,⟨3,10,0⟩,2,0,0,-1,0,1,1⟩
def eu (on form:Int):File:=⟨qC,[⟨0,0,0,-1,-1,0,2,0,0⟩],[],⟨2,0,1,0,-1,0,10,0,0⟩::(if 0≤form then[⟨4,0,1,0,-1,0,on,0,form⟩] else[]),[]⟩
set_option maxRecDepth 10000 in
theorem aGM:ao T aca [] (bf fw):=by
 refine .of_tree rfl ajT aEp ?_;simp[U5];kernel_rfl
set_option maxRecDepth 10000 in
theorem y2 (on form:Int):ao T acd [.int on,.int form] (cm (eu on form)):=by
 refine .of_tree rfl ajV aEr ?_;by_cases h:0≤form
 ·have e:eu on form=⟨qC,[⟨0,0,0,-1,-1,0,2,0,0⟩],[],[⟨2,0,1,0,-1,0,10,0,0⟩,⟨4,0,1,0,-1,0,on,0,form⟩],[]⟩:=by simp[eu,h]
  rw[e];simp[MW,h];rfl
 ·have e:eu on form=⟨qC,[⟨0,0,0,-1,-1,0,2,0,0⟩],[],[⟨2,0,1,0,-1,0,10,0,0⟩],[]⟩:=by simp[eu,h]
  rw[e];simp[MW,h];rfl
theorem aGT:Small fw:=by
 refine⟨by decide,by decide,by decide,by decide,by decide,by decide,by decide,by decide,?_,?_,?_⟩
 ·intro c hc;obtain rfl:c=⟨⟨#[76,121,111,110]⟩,0,0,[],[],[]⟩:=by simpa [fw] using hc
  simp
 ·intro o ho;obtain rfl:o=tR:=by simpa [fw] using ho
  simp[tR]
 ·intro x hx;simp[fw] at hx
theorem WT:RightD fw:=⟨aGT,by decide,fun h hh=>by simp[fw] at hh⟩
theorem aih:Right fw:=by
 refine⟨?_,by decide,?_⟩
 ·intro o ho;obtain rfl:o=tR:=by simpa [fw] using ho
  exact⟨by decide,fun ch h=>by simp[tR] at h⟩
 ·intro o ho;obtain rfl:o=tR:=by simpa [fw] using ho
  refine⟨⟨⟨by decide,fun ch h=>by simp[tR] at h⟩,by decide,?_⟩,by decide⟩;intro x hx;simp[tR] at hx;rcases hx with rfl|rfl|rfl
  all_goals exact⟨by unfold aX;decide,.mk _ _ [] (by unfold aX;omega) (by unfold aX;omega) (by decide) (fun _ h=>by cases h)⟩
theorem Ed (on form day:Int)(h1:(bB (eu on form) day).signs≠[])(h3:max (ru (ju fw 0 6 (bB (eu on form) day) day)) 0=0):eh fw 0 (eu on form) day=10:=by
 have h2:lP (bB (eu on form) day)=-1:=by
  unfold lP;have:(bB (eu on form) day).acts.find? (qu (bB (eu on form) day))=none:=by
   refine List.find?_eq_none.2 fun a _=>?_;simp[qu,bB,eu,qC]
  rw[this];rfl
 have h4:qK fw qC (-1) 0=rL fw 0 10:=apU (b:=qC) WT (by kernel_rfl) (by decide) (by decide) (by decide) rfl rfl (by decide) (by decide) (by decide);have h5:rL fw 0 10=(10,0):=by kernel_rfl
 unfold eh;rw[if_neg h1,h2,h3,show(eu on form).bill=qC from rfl,h4,h5];simp
theorem aGO:ix fw 0 (eu 0 (-1)) 0 12=⟨1,2,1,2⟩:=by
 unfold ix jM;rw[Ed 0 (-1) 12 (by decide) (by kernel_rfl)];kernel_rfl
theorem aGP:ix fw 0 (eu 0 (-1)) 0 13=⟨1,0,1,0⟩:=by
 unfold ix jM;rw[Ed 0 (-1) 13 (by decide) (by kernel_rfl)];kernel_rfl
theorem aGQ:ix fw 0 (eu 12 0) 0 40=⟨1,1,1,1⟩:=by
 unfold ix jM;rw[Ed 12 0 40 (by decide) (by kernel_rfl)];kernel_rfl
theorem aGR:ix fw 0 (eu 12 1) 0 40=⟨1,2,1,2⟩:=by
 unfold ix jM;rw[Ed 12 1 40 (by decide) (by kernel_rfl)];kernel_rfl
theorem aGS:ix fw 0 (eu 12 0) 0 1=⟨0,0,0,0⟩:=by
 have h:eh fw 0 (eu 12 0) 1=-1:=by
  unfold eh;rw[if_pos (by decide)]
 unfold ix jM;rw[h];rfl
theorem aGN:AR fw 0 (eu 0 (-1)) 12=10:=by
 have h:(DView.mk fw 0 (bB (eu 0 (-1)) 12) 0 12 10).dishon=10:=by kernel_rfl
 unfold AR jM;rw[Ed 0 (-1) 12 (by decide) (by kernel_rfl)];exact h
theorem aif (on form:Int):FewS (eu on form):=by
 refine⟨by simp[eu],by simp[eu],?_,by simp[eu]⟩;unfold eu;split<;>simp
theorem ahn:ao T acb [] (.bool true):=by
 have k:=fun on form day=>Eh fw aih WT 0 (eu on form) 0 day (aif on form) (show aF qC.pay _=true by decide) (show 0≤qC.day∧qC.day≤100000 by decide);have k1:=k 0 (-1) 12;have k2:=k 0 (-1) 13;have k3:=k 12 0 40;have k4:=k 12 1 40;have k5:=k 12 0 1;rw[aGO] at k1;rw[aGP] at k2;rw[aGQ] at k3;rw[aGR] at k4;rw[aGS] at k5;have k6:=M9 fw aih WT 0 (eu 0 (-1)) 12 (aif _ _);rw[aGN] at k6;refine .of_tree rfl ajU aEq ?_;simp[U6];refine⟨_,aGM,_,y2 0 (-1),?_⟩;simp;refine⟨_,k1,_,y2 0 (-1),_,k2,_,y2 12 0,_,k3,_,y2 12 1,_,k4,_,y2 12 0,_,k5,?_⟩;simp;refine⟨_,y2 0 (-1),_,k6,?_⟩;simp;exact⟨rfl,rfl,rfl,rfl,rfl,rfl,rfl,rfl,rfl,rfl,rfl,rfl,rfl,rfl,rfl,rfl,rfl,rfl,rfl,rfl⟩
end Rm
namespace Rm
open Go Go.Proofs Cx
def alG (r:Realm)(f:File):Prop:=uo r f=true∧PaperOK r f
theorem aqT {r:Realm}{f:File}(h:oc r f=true)(hc:jv r=0):uo r f=true:=by simp[uo,h,hc]
theorem XD (r:Realm)(hr:r.OK)(f:File)(uu:f.OK):∃d,ao T ab9 [bf r,cm f] d∧∃b:Bool,d=.bool b∧(b=true→alG r f):=by
 refine ao.ex_of_tree rfl ajS aEo ?_;simp[U4];refine⟨_,aBP r f hr,?_⟩;cases e1:oc r f
 ·simp
 have hs:Small r:=OE hr (by simp only[oc,Bool.and_eq_true] at e1;exact e1.1.1);simp;refine⟨_,aBz r hs,?_⟩;by_cases e2:jv r=0
 case neg=>simp[e2]
 simp[e2];obtain⟨d,hd,e,rfl,he⟩:=aBb r hs f uu;refine⟨_,hd,?_⟩;simp;by_cases e0:e=0
 ·exact .inr ⟨e0,aqT e1 e2,he.1 e0⟩
 ·exact .inl e0
theorem aiR (f:File)(l:List Fact)(hf:f.facts.length≤1000)(hl:l.length≤1000):ao T ab8 [cm f,facts l] (cm (jY f l)):=by
 refine .of_tree rfl ajR aEn ?_;simp[U3];refine aP.forRounds l.length (fun k=>[.int k]) (fun k=>[cm (jY f (l.take k))]) ?_ (fun k hk=>?_) ?_
 ·simp;rfl
 ·have hw:=bj hk (by omega);have hlen:=Xg f (l.take k);rw[List.length_take] at hlen;have pY:(jY f (l.take k)).signs=f.signs:=(zg f (l.take k)).same.signs;rw[aiQ f l hk];generalize jY f (l.take k)=g at*;simp[agM,Mb,hk,hw];generalize l[k]=x;have hm:((((0≤x.kind∧x.kind<5)∧0≤x.at_)∧x.at_<(g.signs.length:Int))∧0≤x.n)∧x.n≤1↔oG g x=true:=by
   simp[oG,and_assoc]
  by_cases h:oG g x=true
  ·rw[if_pos (hm.2 h),if_pos h];refine⟨_,aiJ g x (by omega),?_⟩;simp
  ·rw[if_neg (fun e=>h (hm.1 e)),if_neg h]
 ·simp[agM,Mb]
instance (a b:Int):Decidable (dq a b):=by unfold dq;infer_instance
theorem aC8 (a b:Int):ao T Q0 [.int a,.int b] (.bool (decide (dq a b))):=by
 refine .of_tree rfl ajX aEt ?_;simp[U8];by_cases h:a=2
 ·simp[dq,h]
 ·simp[dq,h]
theorem aC7 (a b:Kept)(h:KStays a b):ao T ace [nZ a,nZ b] (.bool true):=by
 have s:=fun x y (h:dq x y)=>(show ao T Q0 [.int x,.int y] (.bool true) from by have:=aC8 x y;rwa [decide_eq_true h] at this)
 refine .of_tree rfl ajW aEs ?_;simp[U7];refine⟨_,s _ _ h.shown,rfl,_,s _ _ h.protest,⟨rfl,rfl⟩,_,s _ _ h.notice,?_⟩;simp;exact s _ _ h.all_
theorem Xy {r:Realm}{f:File}(h:PaperOK r f):aF f.bill.pay r.cities.length=true:=by
 have:=h.bill.where_;simp only[rN,Bool.and_eq_true] at this;exact this.2
theorem Xx {r:Realm}{f:File}(h:PaperOK r f):0≤f.bill.day∧f.bill.day≤100000:=by
 have:=h.bill.range;unfold vS at this;omega
theorem aqV (s:Int)(l:List Fact):∀x,x∈l.filter (fun x=>decide (x.at_≠s))→x.at_≠s:=fun x hx=>by simpa using(List.mem_filter.1 hx).2
theorem air (r:Realm)(hr:r.OK)(forum:Int)(f:File)(uu:f.OK)(sign day:Int)(more:List Fact):ao T ab7 [bf r,.int forum,cm f,.int sign,.int day,facts more] (.bool true):=by
 refine .of_tree rfl ajQ aEm ?_;simp[U2];obtain⟨d,hd,b,rfl,hb⟩:=XD r hr f uu;refine⟨_,ahn,_,hd,?_⟩;cases b
 ·simp
 obtain⟨hg,hP⟩:=hb rfl;have G:=YQ hr hg;by_cases hl:(30:Int)<more.length
 ·simp[hl]
 simp[hl];have hp:=Xy hP;have bk:=Xx hP;have jC:=aqU hg
 have Hr:∀l:List Fact,l.length≤30→FewS (jY f l)∧(jY f l).bill=f.bill:=fun l hl=>by
  have hs:=(zg f l).same;have:=Xg f l;exact⟨⟨by rw[hs.signs];exact G.few.signs,by rw[hs.alters];exact G.few.alters,by rw[hs.acts];exact G.few.acts,by omega⟩,hs.bill⟩
 have ha:=Eh r G.right G.rightD forum f sign day G.few hp bk;have O2:=fun(l:List Fact) (hl:l.length≤30)=>aiR f l (by omega) (by omega);have hk:=fun(l:List Fact) (hl:l.length≤30)=>Eh r G.right G.rightD forum (jY f l) sign day (Hr l hl).1 (by rw[(Hr l hl).2];exact hp) (by rw[(Hr l hl).2];exact bk);have me:=fun(l:List Fact) (hl:l.length≤30)=>M9 r G.right G.rightD forum (jY f l) day (Hr l hl).1;have hdf:=M9 r G.right G.rightD forum f day G.few;have ox:more.length≤30:=by omega
 refine⟨_,ha,_,O2 more ox,_,hk more ox,?_⟩;have cH:=axK r forum (zg f more) sign day;have ot:=apR r forum (zg f more) day;refine aP.forRounds more.length (fun k=>[.none,.int k]) (fun k=>[facts ((more.take k).filter (fun x=>decide (x.at_≠sign)))]) ?_ (fun k mh=>?_) ?_
 ·simp[facts]
 ·have hw:=bj mh (by omega);have ht:=v9 (fun x:Fact=>decide (x.at_≠sign)) more mh;rw[ht];have hlen:((more.take k).filter (fun x=>decide (x.at_≠sign))).length≤k:=Nat.le_trans (List.length_filter_le _ _) (by simp;omega);generalize (more.take k).filter (fun x=>decide (x.at_≠sign))=A at*;by_cases hd:more[k].at_=sign
  ·simp[SW,C2,mh,hw,hd]
  ·simp[SW,C2,mh,hw,hd];exact⟨by omega,by simp[facts]⟩
 ·have hlen:=List.length_filter_le (fun x:Fact=>decide (x.at_≠sign)) more;have PW:=aqV sign more;simp[SW,C2]
  have hA':more.filter (fun x=> !decide (x.at_=sign))=more.filter (fun x=>decide (x.at_≠sign)):=by
   congr 1
   funext x;simp
  rw[hA'];generalize more.filter (fun x=>decide (x.at_≠sign))=L at*;have hL:L.length≤30:=by omega
  have hc:=hk L hL;rw[axJ r forum (zg f L).same (aiP f sign L PW) day] at hc;refine⟨_,O2 L hL,_,hc,_,aC7 _ _ cH,?_⟩;have hrf:∀k:Kept,((gi 4 (D.agg [D.int k.shown,D.int k.protest,D.int k.notice,D.int k.all_])).c 0).i=k.shown∧((gi 4 (D.agg [D.int k.shown,D.int k.protest,D.int k.notice,D.int k.all_])).c 1).i=k.protest∧
   ((gi 4 (D.agg [D.int k.shown,D.int k.protest,D.int k.notice,D.int k.all_])).c 2).i=k.notice∧((gi 4 (D.agg [D.int k.shown,D.int k.protest,D.int k.notice,D.int k.all_])).c 3).i=k.all_:=fun k=>⟨rfl,rfl,rfl,rfl⟩
  obtain⟨q0,q1,q2,q3⟩:=hrf (ix r forum f sign day);simp[q0,q1,q2,q3];refine⟨_,O2 more ox,_,me more ox,_,hdf,?_⟩;simp[ot]
end Rm
