/-
  Shared texts of this claim.
-/
import Derived.Test.YtodhjdbleiakeaaGreatDoorNAO
import Derived.Lib.Mul64
set_option linter.unusedSimpArgs false
set_option linter.unusedVariables false
namespace Rm
open Go Go.Proofs Cx
def eM:List Int→Int
 |[]=>0
 |x::l=>if x=0 then eM l else x
theorem Mu:∀{l:List Int},eM l=0↔∀x,x∈l→x=0
 |[]=>by simp[eM]
 |x::l=>by
  simp only[eM,cG,forall_eq_or_imp];by_cases h:x=0
  ·simp[h,Mu (l:=l)]
  ·simp[h]
def oO (r:Realm)(i:Nat):Bool:=aA (r.firms.getD i default).city r.cities.length&&aA (r.firms.getD i default).group r.groups.length
def oE (r:Realm)(i:Nat):Bool:=nq r (r.cities.getD i default)
def mR (r:Realm)(i:Nat):Bool:=po (r.orders.getD i default)
def ve (r:Realm)(i:Nat):Bool:=aA (r.groups.getD i default).grade 10
def sY (r:Realm):Int:=if 20<r.groups.length then 6 else if ej r.groups.length (ve r) then 0 else 1
def hH (r:Realm):Int:=eM [eJ r.currencies 8 (fun _=>true),eJ (fa r) 40 (oE r),sY r,eJ (fb r) 200 (oO r),eJ (eH r) 20 (mR r),qY r,nY r]
theorem an5 (i:Int):ak T Rw [.int i] (.bool true):=by
 refine .of_tree rfl akC aC1 ?_;simp[VQ]
theorem an6 (r:Realm)(h:Small r)(i:Nat)(hi:i<r.cities.length):ak T Rx [.int i,.ref (bl r)] (.bool (oE r i)):=by
 refine .of_tree rfl akD aC2 ?_;obtain⟨h1,h2,h3,h4⟩:=h.city _ (di hi);simp[VR,hi,oE];exact aAJ r r.cities[i] (by omega) (by omega) (by omega)
theorem an7 (r:Realm)(i:Nat)(hi:i<r.firms.length):ak T Ry [.int i,.ref (bl r)] (.bool (oO r i)):=by
 refine .of_tree rfl akE aC3 ?_;simp[VS,hi,oO];refine⟨_,fE _ _,?_⟩;simp[hi];cases e1:aA r.firms[i].city r.cities.length<;>simp;exact fE _ _
theorem an8 (r:Realm)(h:Small r)(i:Nat)(hi:i<r.orders.length):ak T Rz [.int i,.ref (bl r)] (.bool (mR r i)):=by
 refine .of_tree rfl akF aC4 ?_;obtain⟨h1,h2⟩:=h.order _ (di hi);simp[VT,hi,mR];exact aAN r.orders[i] (by omega) (by omega)
theorem Mk (r:Realm)(h:Small r):ak T adz [bl r] (.int (hH r)):=by
 refine .of_tree rfl akB aC5 ?_;have g1:=h.cur;have g2:=h.cities;have g3:=h.firms;have g4:=h.orders;have g5:=h.groups;simp[VP];refine⟨_,aAM r (by omega) (by omega) (by omega),?_⟩;simp;refine⟨_,Ml r.currencies 8 Rw [] (fun _=>true) (fun i _=>an5 _) (by omega),?_⟩;unfold hH;generalize e1:eJ r.currencies 8 (fun _=>true)=x1;by_cases z1:x1=0
 case neg=>simp[z1,eM]
 simp[z1,eM];refine⟨_,Ml (fa r) 40 Rx [.ref (bl r)] (oE r) (fun i hi=>an6 r h i (by simpa [fa] using hi)) (by simp[fa];omega),?_⟩;generalize e2:eJ (fa r) 40 (oE r)=x2;by_cases z2:x2=0
 case neg=>simp[z2]
 simp[z2];by_cases z3:20<r.groups.length
 ·have W8:(20:Int)<r.groups.length:=by omega
  simp[W8,sY,z3]
 have W8:¬(20:Int)<r.groups.length:=by omega
 simp[W8,sY,z3];refine fP r.groups.length (ve r) (fun k=>[.int 0,.int k]) (fun _=>[]) ?_ (fun k hk ho=>?_) (fun k hk ho hb=>?_) (fun hj=>?_)
 ·simp
 ·have hw:=bE hk (by omega);simp[ve,hk] at ho;simp[TR,EG,hk];refine⟨_,fE _ _,?_⟩;simp[ho,hw]
 ·simp[ve,hk] at ho;rw[hb];simp[TR,EG,hk];refine⟨_,fE _ _,?_⟩;simp[ho]
 ·rw[hj];simp[TR,EG];refine⟨_,Ml (fb r) 200 Ry [.ref (bl r)] (oO r) (fun i hi=>an7 r i (by simpa [fb] using hi)) (by simp[fb];omega),?_⟩;generalize e4:eJ (fb r) 200 (oO r)=x4;by_cases z4:x4=0
  case neg=>simp[z4]
  simp[z4];refine⟨_,Ml (eH r) 20 Rz [.ref (bl r)] (mR r) (fun i hi=>an8 r h i (by simpa [eH] using hi)) (by simp[eH];omega),?_⟩;generalize e5:eJ (eH r) 20 (mR r)=x5;by_cases z5:x5=0
  case neg=>simp[z5]
  simp[z5];refine⟨_,aAP r h,?_⟩;generalize e6:qY r=x6;by_cases z6:x6=0
  case neg=>simp[z6]
  simp[z6];have e7:(if nY r=0 then 0 else nY r)=nY r:=by split<;>simp_all
  rw[e7];exact aAO r h
theorem apU (l:List ByteArray)(k:Nat):jK l (fun _=>true) k=gq l k:=by
 unfold jK;by_cases h:gq l k=0<;>simp[h]
theorem Cm {l:List ByteArray}{g:Nat→Bool}{k:Nat}(h:jK l g k=0):gq l k=0∧g k=true:=by
 unfold jK at h;by_cases h1:gq l k=0
 ·simp[h1] at h;exact⟨h1,h⟩
 ·simp[h1] at h
theorem OJ {l:List ByteArray}{g:Nat→Bool}{k:Nat}(h:jK l g k≠0):(gq l k≠0∧jK l g k=gq l k)∨(gq l k=0∧g k=false∧jK l g k=1):=by
 unfold jK at h ⊢;by_cases h1:gq l k=0
 ·simp[h1] at h ⊢;simp[h]
 ·simp[h1]
theorem aAe (r:Realm)(h:Small r):ak T adn [bl r] (.int (eM [eJ r.currencies 8 (fun _=>true),eJ (fa r) 40 (oE r)])):=by
 refine .of_tree rfl akp aCP ?_;have g1:=h.cur;have g2:=h.cities;have g4:=h.orders;simp[VD];unfold eJ;by_cases z1:(8:Int)<r.currencies.length
 ·simp[z1,eM]
 simp[z1,eM];refine oc r.currencies.length (jK r.currencies (fun _=>true)) (fun k=>[.int 0,.int k]) (fun _=>[]) ?_ (fun k hk ho=>?_) (fun k hk ho hb=>?_) (fun hj=>?_)
 ·simp
 ·have hw:=bE hk (by omega);simp[TG,Ev,hk];refine⟨_,Ec _ k hk (by omega),?_⟩;simp[(Cm ho).1,hw]
 ·rw[hb];simp[TG,Ev,hk,ho];rw[apU];exact Ec _ k hk (by omega)
 ·rw[hj];simp[TG,Ev];have hlen:(fa r).length=r.cities.length:=by simp[fa]
  rw[hlen];by_cases z2:(40:Int)<r.cities.length
  ·simp[z2]
  simp[z2];have key:∀k (hk:k<r.cities.length),((fa r).take k).length=k∧D.list (List.take k (List.map str (fa r))++[str r.cities[k].name])=strs ((fa r).take (k+1))∧
     ak T DK [strs ((fa r).take (k+1)),.int k] (.int (gq (fa r) k))∧ak T Ru [bl r,fF r.cities[k]] (.bool (oE r k)):=by
   intro k hk;have bt:k<(fa r).length:=by omega
   have hg:(fa r)[k]=r.cities[k].name:=by simp[fa]
   have hs:(fa r).take (k+1)=(fa r).take k++[(fa r)[k]]:=m9 bt;have hn:=Ec ((fa r).take (k+1)) k (by rw[ei];omega) (by rw[ei];omega);rw[RN _ _ _ (by omega)] at hn;obtain⟨c1,c2,c3,c4⟩:=h.city _ (di hk);have hc:=aAc r r.cities[k] (by omega) (by omega) (by omega) (by omega) (by omega) c4;rw[aof] at hc;exact⟨by rw[ei];omega,by rw[hs,hg];simp[strs],hn,by simpa [oE,hk] using hc⟩
  refine oc r.cities.length (jK (fa r) (oE r)) (fun k=>[.int 0,.none,.int k]) (fun k=>[strs ((fa r).take k)]) ?_ (fun k hk ho=>?_) (fun k hk ho hb=>?_) (fun hj=>?_)
  ·simp[strs]
  ·have hw:=bE hk (by omega);obtain⟨hl,eA,hn,hc⟩:=key k hk;obtain⟨o1,o2⟩:=Cm ho;rw[o1] at hn;rw[o2] at hc;simp[TH,Ew,hk,hl,eA,aBz];refine⟨by omega,_,hn,?_⟩;simp[hk];refine⟨_,hc,?_⟩;simp[hw]
  ·rw[hb];obtain⟨hl,eA,hn,hc⟩:=key k hk;simp[TH,Ew,hk,hl,eA,ho];refine⟨by omega,_,hn,?_⟩;rcases OJ ho with⟨o1,o2⟩|⟨o1,o2,o3⟩
   ·simp[o1,o2]
   ·rw[o2] at hc;simp[o1,o3,hk];refine⟨_,hc,?_⟩;simp
  ·rw[hj];simp[TH,Ew]
theorem aAf (r:Realm)(h:Small r):ak T ado [bl r] (.int (eM [sY r,eJ (fb r) 200 (oO r)])):=by
 refine .of_tree rfl akq aCQ ?_;have g1:=h.groups;have g2:=h.firms;have g3:=h.cities;have w3:=q5 r.cities.length (by omega);have w1:=q5 r.groups.length (by omega);simp[VE];by_cases z1:20<r.groups.length
 ·have W7:(20:Int)<r.groups.length:=by omega
  simp[W7,sY,z1,eM]
 have W7:¬(20:Int)<r.groups.length:=by omega
 simp[W7,sY,z1,eM];refine fP r.groups.length (ve r) (fun k=>[.int 0,.int k]) (fun _=>[]) ?_ (fun k hk ho=>?_) (fun k hk ho hb=>?_) (fun hj=>?_)
 ·simp
 ·have hw:=bE hk (by omega);simp[ve,hk] at ho;have e:wi r.groups[k].grade 0 9=aA r.groups[k].grade 10:=by rw[q6];simp[wi,aA];omega
  simp[TI,Ex,hk];refine⟨_,cN _ _ _,?_⟩;simp[e,ho,hw]
 ·simp[ve,hk] at ho;have e:wi r.groups[k].grade 0 9=aA r.groups[k].grade 10:=by rw[q6];simp[wi,aA];omega
  rw[hb];simp[TI,Ex,hk];refine⟨_,cN _ _ _,?_⟩;simp[e,ho]
 ·rw[hj];simp[TI,Ex];unfold eJ;have hlen:(fb r).length=r.firms.length:=by simp[fb]
  rw[hlen];by_cases z2:(200:Int)<r.firms.length
  ·simp[z2]
  simp[z2];have key:∀k (hk:k<r.firms.length),((fb r).take k).length=k∧D.list (List.take k (List.map str (fb r))++[str r.firms[k].name])=strs ((fb r).take (k+1))∧
     ak T DK [strs ((fb r).take (k+1)),.int k] (.int (gq (fb r) k))∧oO r k=(wi r.firms[k].city 0 ((r.cities.length:Int)-1)&&wi r.firms[k].group 0 ((r.groups.length:Int)-1)):=by
   intro k hk;have bt:k<(fb r).length:=by omega
   have hg:(fb r)[k]=r.firms[k].name:=by simp[fb]
   have hs:(fb r).take (k+1)=(fb r).take k++[(fb r)[k]]:=m9 bt;have hn:=Ec ((fb r).take (k+1)) k (by rw[ei];omega) (by rw[ei];omega);rw[RN _ _ _ (by omega)] at hn;exact⟨by rw[ei];omega,by rw[hs,hg];simp[strs],hn,by simp[oO,hk,mH]⟩
  refine oc r.firms.length (jK (fb r) (oO r)) (fun k=>[.int 0,.none,.int k]) (fun k=>[strs ((fb r).take k)]) ?_ (fun k hk ho=>?_) (fun k hk ho hb=>?_) (fun hj=>?_)
  ·simp[strs]
  ·have hw:=bE hk (by omega);obtain⟨hl,eA,hn,hc⟩:=key k hk;obtain⟨o1,o2⟩:=Cm ho;rw[o1] at hn;rw[o2] at hc;have hc':=Bool.and_eq_true_iff.1 hc.symm;simp[TJ,Ey,hk,hl,eA];refine⟨by omega,_,hn,?_⟩;simp[hk,w3];refine⟨_,cN _ _ _,?_⟩;simp[hc'.1,hk,w1];refine⟨_,cN _ _ _,?_⟩;simp[hc'.2,hw]
  ·rw[hb];obtain⟨hl,eA,hn,hc⟩:=key k hk;simp[TJ,Ey,hk,hl,eA,ho];refine⟨by omega,_,hn,?_⟩;rcases OJ ho with⟨o1,o2⟩|⟨o1,o2,o3⟩
   ·simp[o1,o2]
   ·rw[o2] at hc;simp[o1,o3,hk,w3];refine⟨_,cN _ _ _,?_⟩;cases e1:wi r.firms[k].city 0 ((r.cities.length:Int)-1)
    ·simp
    rw[e1,xb] at hc;simp[hk,w1];refine⟨_,cN _ _ _,?_⟩;simp[←hc]
  ·rw[hj];simp[TJ,Ey]
theorem aAg (r:Realm)(h:Small r):ak T adp [bl r] (.int (eJ (eH r) 20 (mR r))):=by
 refine .of_tree rfl aks aCS ?_;have g2:=h.orders;simp[VG];unfold eJ;have hlen:(eH r).length=r.orders.length:=by simp[eH]
 rw[hlen];by_cases z2:(20:Int)<r.orders.length
 ·simp[z2]
 simp[z2];have key:∀k (hk:k<r.orders.length),((eH r).take k).length=k∧D.list (List.take k (List.map str (eH r))++[str r.orders[k].name])=strs ((eH r).take (k+1))∧
  ak T DK [strs ((eH r).take (k+1)),.int k] (.int (gq (eH r) k))∧ak T Rv [iJ r.orders[k]] (.bool (mR r k)):=by
  intro k hk;have bt:k<(eH r).length:=by omega
  have hg:(eH r)[k]=r.orders[k].name:=by simp[eH]
  have hs:(eH r).take (k+1)=(eH r).take k++[(eH r)[k]]:=m9 bt;have hn:=Ec ((eH r).take (k+1)) k (by rw[ei];omega) (by rw[ei];omega);rw[RN _ _ _ (by omega)] at hn;obtain⟨c1,c2⟩:=h.order _ (di hk);exact⟨by rw[ei];omega,by rw[hs,hg];simp[strs],hn,by simpa [mR,hk] using aAd r.orders[k] (by omega) (by omega)⟩
 refine oc r.orders.length (jK (eH r) (mR r)) (fun k=>[.int 0,.none,.int k]) (fun k=>[strs ((eH r).take k)]) ?_ (fun k hk ho=>?_) (fun k hk ho hb=>?_) (fun hj=>?_)
 ·simp[strs]
 ·have hw:=bE hk (by omega);obtain⟨hl,eA,hn,hc⟩:=key k hk;obtain⟨o1,o2⟩:=Cm ho;rw[o1] at hn;rw[o2] at hc;simp[TK,Ez,hk,hl,eA];refine⟨by omega,_,hn,?_⟩;simp[hk];refine⟨_,hc,?_⟩;simp[hw]
 ·rw[hb];obtain⟨hl,eA,hn,hc⟩:=key k hk;simp[TK,Ez,hk,hl,eA,ho];refine⟨by omega,_,hn,?_⟩;rcases OJ ho with⟨o1,o2⟩|⟨o1,o2,o3⟩
  ·simp[o1,o2]
  ·rw[o2] at hc;simp[o1,o3,hk];refine⟨_,hc,?_⟩;simp
 ·rw[hj];simp[TK,Ez]
theorem az9 (r:Realm)(h:Small r):ak T adh [bl r] (.int (hH r)):=by
 refine .of_tree rfl akh aCH ?_
 have e:hH r=eM [eM [eJ r.currencies 8 (fun _=>true),eJ (fa r) 40 (oE r)],eM [sY r,eJ (fb r) 200 (oO r)],eJ (eH r) 20 (mR r),qY r,nY r]:=by
  unfold hH;simp only[eM];split<;>(try split)<;>(try split)<;>(try split)<;>simp_all
 rw[e];simp[Vv];refine⟨_,aAe r h,?_⟩;have h1:=aAf r h;generalize eM [eJ r.currencies 8 (fun _=>true),eJ (fa r) 40 (oE r)]=x1 at*;generalize eM [sY r,eJ (fb r) 200 (oO r)]=x2 at*;have h2:=aAg r h;generalize eJ (eH r) 20 (mR r)=x3 at*;have h3:=aAi r h;generalize qY r=x4 at*;have h4:=aAh r h;generalize nY r=x5 at*;by_cases z1:x1=0
 case neg=>simp[z1,eM]
 simp[z1,eM];refine⟨_,h1,?_⟩;by_cases z2:x2=0
 case neg=>simp[z2]
 simp[z2];refine⟨_,h2,?_⟩;by_cases z3:x3=0
 case neg=>simp[z3]
 simp[z3];refine⟨_,h3,?_⟩;by_cases z4:x4=0
 case neg=>simp[z4]
 simp[z4];have e7:(if x5=0 then 0 else x5)=x5:=by split<;>simp_all
 rw[e7];exact h4
end Rm
namespace Rm
open Go Go.Proofs Cx
def jz:Nat→Tm→Int→Int
 |0,_,_=>-1
 |L+1,t,n=>t.args.foldl (fun m a=>if 0≤m then jz L a m else m) (n-1)
theorem size_le:∀(L:Nat) (t:Tm) (n:Int),0≤n→-1≤jz L t n∧jz L t n≤n
 |0,t,n,h=>by simp[jz];omega
 |L+1,t,n,h=>by
  have key:∀(l:List Tm) (m:Int),-1≤m→m≤n→-1≤l.foldl (fun m a=>if 0≤m then jz L a m else m) m∧l.foldl (fun m a=>if 0≤m then jz L a m else m) m≤n:=by
   intro l
   induction l with
   |nil=>intro m h1 h2;exact⟨h1,h2⟩
   |cons a l ih=>
    intro m h1 h2;simp only[M3];split
    ·rename_i hm;have:=size_le L a m hm;exact ih _ this.1 (by omega)
    ·exact ih _ h1 h2
  exact key _ _ (by omega) (by omega)
theorem ahx (L:Nat):∀(l:List Tm) (m:Int),m<0→l.foldl (fun m a=>if 0≤m then jz L a m else m) m=m
 |[],m,h=>rfl
 |a::l,m,h=>by simp only[M3];rw[if_neg (by omega)];exact ahx L l m h
theorem asr {α β:Type}(f:β→α→β)(b:β){l:List α}{k:Nat}(h:k<l.length):(l.take (k+1)).foldl f b=f ((l.take k).foldl f b) l[k]:=by
 rw[m9 h,M2];rfl
theorem asq {α β:Type}(f:β→α→β)(b:β)(l:List α)(k:Nat):l.foldl f b=(l.drop k).foldl f ((l.take k).foldl f b):=by
 rw[←M2,M8]
theorem _root_.Cx.Tm.OK.len {t:Tm}(h:t.OK):t.args.length≤9223372036854775807:=by cases h with|mk o n xs h1 h2 h3 h4=>exact h3
theorem _root_.Cx.Tm.OK.arg {t:Tm}(h:t.OK){a:Tm}(ha:a∈t.args):a.OK:=by cases h with|mk o n xs h1 h2 h3 h4=>exact h4 a ha
theorem agA:∀(L:Nat) (t:Tm) (n:Int),t.OK→0≤n→n≤1000→L≤1000→ak T adv [dF t,.int n,.int L] (.int (jz L t n))
 |0,t,n,ht,h0,h1,hL=>by
  refine .of_tree rfl X2 ahK ?_;simp[MM,jz]
 |L+1,t,n,ht,h0,h1,hL=>by
  refine .of_tree rfl X2 ahK ?_;have qv:IntKind.i64.wrap (n-1)=n-1:=bF (by omega);have hl:=ht.len;have kT:¬((L:Int)+1<1):=by omega
  simp[MM,qv,kT]
  let g:Nat→Int:=fun k=>(t.args.take k).foldl (fun m a=>if 0≤m then jz L a m else m) (n-1)
  have gb:∀k,-1≤g k∧g k≤1000:=by
   intro k;have:g k=jz (L+1) (.mk 0 0 (t.args.take k)) n:=rfl;have:=size_le (L+1) (.mk 0 0 (t.args.take k)) n h0;omega
  refine .scan t.args.length (fun k=>0≤g k) (fun k=>[.int (g k),.int k]) (fun _=>[]) ?_ (fun k hk hj ho=>?_) (fun k hk hj ho=>?_) (fun hj=>?_)
  ·simp[g,qv]
  ·have hw:IntKind.i64.wrap ((k:Int)+1)=(k:Int)+1:=bF (by omega);have Iy:IntKind.i64.wrap (L:Int)=(L:Int):=bF (by omega);have hg:g (k+1)=jz L t.args[k] (g k):=by
    show(t.args.take (k+1)).foldl _ _=_;rw[asr _ _ hk];show(if 0≤g k then _ else _)=_;rw[if_pos ho]
   rw[hg];have ij:=agA L t.args[k] (g k) (ht.arg (di hk)) ho (gb k).2 (by omega);generalize g k=m at*;simp[TO,ED,hk,ho,Iy];refine⟨_,ij,?_⟩;simp[hw]
  ·have hf:jz (L+1) t n=g k:=by
    show t.args.foldl _ _=_;rw[asq _ _ _ k];exact ahx L _ _ (by show g k<0;omega)
   rw[hf];generalize g k=m at*;simp[TO,ED,hk,ho]
  ·have hf:jz (L+1) t n=g t.args.length:=by
    show t.args.foldl _ _=(t.args.take t.args.length).foldl _ _;rw[xj]
   rw[hf];generalize g t.args.length=m at*;simp[TO,ED]
theorem agy (t:Tm)(ht:t.OK):ak T adt [dF t] (.bool (decide (0≤jz 20 t 100))):=by
 refine .of_tree rfl akw aCW ?_;simp[VK];refine⟨_,agA 20 t 100 ht (by omega) (by omega) (by omega),?_⟩;simp
def qg (o:Order):Bool:=(decide (o.rules.length≤60)&&decide (o.choices.length≤60))&&ej o.rules.length (fun k=>decide (0≤jz 20 (o.rules.getD k default).term 100))
theorem agB (o:Order)(ho:o.OK):ak T adw [iJ o] (.bool (qg o)):=by
 refine .of_tree rfl aky aCY ?_;simp[VM];by_cases h1:(o.rules.length:Int)≤60
 case neg=>
  have cA:(60:Int)<o.rules.length:=by omega
  have hf:qg o=false:=by
   have:decide (o.rules.length≤60)=false:=decide_eq_false (by omega);simp only[qg,this,q7]
  simp[cA,hf]
 by_cases h2:(o.choices.length:Int)≤60
 case neg=>
  have cA:(60:Int)<o.choices.length:=by omega
  have hf:qg o=false:=by
   have:decide (o.choices.length≤60)=false:=decide_eq_false (by omega);simp only[qg,this,q7,w8]
  simp[cA,hf]
 have cA:¬(60:Int)<o.rules.length:=by omega
 have jL:¬(60:Int)<o.choices.length:=by omega
 have hf:qg o=ej o.rules.length (fun k=>decide (0≤jz 20 (o.rules.getD k default).term 100)):=by
  have e1:decide (o.rules.length≤60)=true:=decide_eq_true (by omega);have e2:decide (o.choices.length≤60)=true:=decide_eq_true (by omega);simp only[qg,e1,e2,xb]
 rw[hf];simp[cA,jL];have hO:=ho.2.2;refine fP o.rules.length (fun k=>decide (0≤jz 20 (o.rules.getD k default).term 100)) (fun k=>[.bool false,.int k]) (fun _=>[]) ?_ (fun k hk ho=>?_) (fun k hk ho hb=>?_) (fun hj=>?_)
 ·simp
 ·have hw:=bE hk (by omega);simp[hk] at ho;simp[TP,EE,hk];refine⟨_,agy _ (hO _ (di hk)).2,?_⟩;simp[ho,hw]
 ·simp only[aS] at hb;rw[hb];simp[hk] at ho;simp[TP,EE,hk];refine⟨_,agy _ (hO _ (di hk)).2,?_⟩;simp[ho]
 ·simp only[aS] at hj;rw[hj];simp[TP,EE]
def Ci (f:File):Bool:=decide ((f.signs.length:Int)≤50)&&decide ((f.alters.length:Int)≤10)&&decide ((f.acts.length:Int)≤110)&&decide ((f.facts.length:Int)≤220)
theorem aAn (f:File):ak T ads [cZ f] (.bool (Ci f)):=by
 refine .of_tree rfl akv aCV ?_;simp[VJ,Ci];by_cases h1:(f.signs.length:Int)≤50<;>by_cases h2:(f.alters.length:Int)≤10<;>by_cases h3:(f.acts.length:Int)≤110<;>by_cases h4:(f.facts.length:Int)≤220<;>
  simp[h1,h2,h3,h4]
end Rm
namespace Rm
open Go Go.Proofs Cx
def Cg (r:Realm)(k:Nat):Bool:=decide (((r.cities.getD k default).feasts.length:Int)≤70)&&decide (((r.cities.getD k default).shut.length:Int)≤210)&&decide (((r.cities.getD k default).rest.length:Int)≤8)
def Ch (r:Realm)(k:Nat):Bool:=decide (((r.orders.getD k default).choices.length:Int)≤40)&&decide (((r.orders.getD k default).rules.length:Int)≤40)
def Hu (r:Realm):Bool:=decide ((r.currencies.length:Int)<50)&&decide ((r.cities.length:Int)<50)&&decide ((r.groups.length:Int)<50)&&decide ((r.firms.length:Int)<210)&&decide ((r.orders.length:Int)<50)&&decide ((r.usances.length:Int)<110)&&decide ((r.rates.length:Int)<110)&&decide ((r.halts.length:Int)<50)
def oN (r:Realm):Bool:=ej (min r.cities.length 50) (Cg r)&&ej (min r.orders.length 50) (Ch r)&&Hu r
theorem aAa (r:Realm)(hr:r.OK):ak T adi [bl r] (.bool (oN r)):=by
 refine .of_tree rfl aki aCI ?_;simp[Vw];refine fP (min r.cities.length 50) (Cg r) (fun k=>[.bool false,.int k]) (fun _=>[]) ?_ (fun k hk ho=>?_) (fun k hk ho hb=>?_) (fun hj=>?_)
 ·simp
 ·have bH:k<r.cities.length:=by omega
  have cD:k<50:=by omega
  have hw:=bE cD (by omega);simp[Cg,bH] at ho;obtain⟨⟨a1,a2⟩,a3⟩:=ho;have b1:¬(70:Int)<r.cities[k].feasts.length:=by omega
  have b2:¬(210:Int)<r.cities[k].shut.length:=by omega
  have b3:¬(8:Int)<r.cities[k].rest.length:=by omega
  simp[Eo,wK,bH,cD,hw,b1,b2,b3];omega
 ·have bH:k<r.cities.length:=by omega
  have cD:k<50:=by omega
  have hf:oN r=false:=by simp only[oN,hb,q7]
  rw[hf];simp[Cg,bH] at ho;by_cases b1:(70:Int)<r.cities[k].feasts.length
  ·simp[Eo,wK,bH,cD,b1];omega
  by_cases b2:(210:Int)<r.cities[k].shut.length
  ·simp[Eo,wK,bH,cD,b1,b2];omega
  have b3:(8:Int)<r.cities[k].rest.length:=by have:=ho (by omega) (by omega);omega
  simp[Eo,wK,bH,cD,b1,b2,b3];omega
 ·have hn:¬((min r.cities.length 50:Nat):Int)<r.cities.length∨¬((min r.cities.length 50:Nat):Int)<50:=by omega
  simp[Eo,wK];rw[if_neg (by omega)];refine fP (min r.orders.length 50) (Ch r) (fun k=>[.bool false,.int k]) (fun _=>[]) ?_ (fun k hk ho=>?_) (fun k hk ho hb=>?_) (fun CW=>?_)
  ·simp
  ·have bH:k<r.orders.length:=by omega
   have cD:k<50:=by omega
   have hw:=bE cD (by omega);simp[Ch,bH] at ho;obtain⟨a1,a2⟩:=ho;have b1:¬(40:Int)<r.orders[k].choices.length:=by omega
   have b2:¬(40:Int)<r.orders[k].rules.length:=by omega
   simp[L5,zG,bH,cD,hw,b1,b2];omega
  ·have bH:k<r.orders.length:=by omega
   have cD:k<50:=by omega
   have hf:oN r=false:=by simp only[oN,hb,q7,w8]
   rw[hf];simp[Ch,bH] at ho;by_cases b1:(40:Int)<r.orders[k].choices.length
   ·simp[L5,zG,bH,cD,b1];omega
   have b2:(40:Int)<r.orders[k].rules.length:=by have:=ho (by omega);omega
   simp[L5,zG,bH,cD,b1,b2];omega
  ·have hf:oN r=Hu r:=by simp only[oN,hj,CW,xb]
   rw[hf];simp[L5,zG];rw[if_neg (by omega)];unfold Hu;by_cases c1:(r.currencies.length:Int)<50<;>simp[c1];by_cases c2:(r.cities.length:Int)<50<;>simp[c2];by_cases c3:(r.groups.length:Int)<50<;>simp[c3];by_cases c4:(r.firms.length:Int)<210<;>simp[c4];by_cases c5:(r.orders.length:Int)<50<;>simp[c5];by_cases c6:(r.usances.length:Int)<110<;>simp[c6];by_cases c7:(r.rates.length:Int)<110<;>simp[c7]
theorem OE {r:Realm}(hr:r.OK)(h:oN r=true):Small r:=by
 simp only[oN,Hu,ar,decide_eq_true_eq,xo] at h;obtain⟨⟨h1,h2⟩,⟨⟨⟨⟨⟨⟨⟨c1,c2⟩,c3⟩,c4⟩,c5⟩,c6⟩,c7⟩,c8⟩⟩:=h;obtain⟨k1,⟨k2,k2'⟩,⟨k3,k3'⟩,⟨k4,k4'⟩,⟨k5,k5'⟩,⟨k6,k6'⟩,⟨k7,k7'⟩,⟨k8,k8'⟩⟩:=hr;refine⟨by omega,by omega,by omega,by omega,by omega,by omega,by omega,by omega,fun c hc=>?_,fun o ho=>?_,fun x hx=>?_⟩
 ·obtain⟨k,hk,rfl⟩:=jB hc;have:=h1 k (by omega);simp[Cg,hk] at this;have:=k2' _ hc;exact⟨by omega,by omega,by omega,fun y hy=>this.2.2.2.1.2 y hy⟩
 ·obtain⟨k,hk,rfl⟩:=jB ho;have:=h2 k (by omega);simp[Ch,hk] at this;omega
 ·have:=k7' x hx;exact⟨this.2.2.1,this.2.2.2.1⟩
def rC (r:Realm)(f:File):Bool:=(oN r&&Ci f)&&ej r.orders.length (fun k=>qg (r.orders.getD k default))
theorem aAo (r:Realm)(f:File)(hr:r.OK):ak T adx [bl r,cZ f] (.bool (rC r f)):=by
 refine .of_tree rfl akz aCZ ?_;simp[VN];refine⟨_,aAa r hr,?_⟩;cases e1:oN r
 ·simp[rC,e1]
 simp;refine⟨_,aAn f,?_⟩;cases e2:Ci f
 ·simp[rC,e1,e2]
 have hs:=OE hr e1;have ho:=hs.orders;have hf:rC r f=ej r.orders.length (fun k=>qg (r.orders.getD k default)):=by simp only[rC,e1,e2,xb]
 rw[hf];simp;have hO:=hr.2.2.2.2.1.2;refine fP r.orders.length (fun k=>qg (r.orders.getD k default)) (fun k=>[.bool false,.int k]) (fun _=>[]) ?_ (fun k hk ho=>?_) (fun k hk ho hb=>?_) (fun hj=>?_)
 ·simp
 ·have hw:=bE hk (by omega);simp[hk] at ho;simp[TQ,EF,hk];refine⟨_,agB _ (hO _ (di hk)),?_⟩;simp[ho,hw]
 ·simp only[aS] at hb;rw[hb];simp[hk] at ho;simp[TQ,EF,hk];refine⟨_,agB _ (hO _ (di hk)),?_⟩;simp[ho]
 ·simp only[aS] at hj;rw[hj];simp[TQ,EF]
def xV (r:Realm)(f:File):Bool:=rC r f&&decide (hH r=0)
def oI (n:Int):Int:=min (max n (-1099511627776)) 1099511627776
theorem MG (n:Int):ak T ad9 [.int n] (.int (oI n)):=by
 refine .of_tree rfl alh aDP ?_;simp[Wy,oI];by_cases h1:-1099511627776>n
 ·have:¬(1099511627776:Int)< -1099511627776:=by omega
  simp[h1];omega
 ·by_cases h2:(1099511627776:Int)<n
  ·simp[h1,h2];omega
  ·simp[h1,h2];omega
def l6 (v:Int):Int×Bool:=if v<0∨19<v then(0,false) else if v<7 then(0,true) else(1,true)
theorem ahF (v:Int):ak T RF [.int v] (.tup [.int (l6 v).1,.bool (l6 v).2]):=by
 refine .of_tree rfl X9 aDL ?_;simp[Wu,l6];by_cases h1:v<0
 ·simp[h1]
 by_cases h2:19<v
 ·simp[h1,h2]
 by_cases h3:v<7
 ·simp[h1,h2,h3]
 ·simp[h1,h2,h3]
def DB (t:Tm):Int×Int:=
 if 0<t.args.length then(0,2) else if t.op=0 then(if oI t.n≠t.n then(0,3) else(0,0)) else if t.op=1 then(if t.n<0∨1<t.n then(0,3) else(1,0)) else if(l6 t.n).2=false then(0,10) else((l6 t.n).1,0)
theorem aBJ (t:Tm):ak T RI [dF t] (.tup [.int (DB t).1,.int (DB t).2]):=by
 refine .of_tree rfl Yc aDQ ?_;simp[Wz,DB];by_cases h0:0<t.args.length
 ·have fG:(0:Int)<t.args.length:=by omega
  simp[h0,fG]
 simp[h0];by_cases h1:t.op=0
 ·simp[h1];refine⟨_,MG _,?_⟩;by_cases h2:oI t.n=t.n<;>simp[h2]
 by_cases h2:t.op=1
 ·simp[h1,h2];by_cases h3:t.n<0<;>by_cases h4:1<t.n<;>simp[h3,h4]
 simp[h1,h2];refine⟨_,ahF _,?_⟩;cases h3:(l6 t.n).2<;>simp[h3]
def eN (op:Int):List Int×Int:=
 if op=3 then([1],1) else if op=4∨op=5 then([1,1],1) else if op=6 then([1,-1,-1],-1) else if op=7 then([0,0],1) else if op=8 then([-1,-1],1) else([0,0],0)
def Cd (s:List Int×Int):D:=.agg [ints s.1,.int s.2]
@[simp] theorem aGn (s:List Int×Int):(Cd s).cells=[ints s.1,.int s.2]:=_root_.id rfl
@[simp] theorem aGl (s:List Int×Int):(Cd s).c 0=ints s.1:=_root_.id rfl
@[simp] theorem aGm (s:List Int×Int):(Cd s).c 1=.int s.2:=_root_.id rfl
@[simp] theorem aJT (s:List Int×Int):D.agg [ints s.1,.int s.2]=Cd s:=_root_.id rfl
@[simp] theorem aKQ (x y:Int):uu (.int x) 0 (.int y)=.int y:=_root_.id rfl
theorem aBL (op:Int):ak T RL [.int op] (Cd (eN op)):=by
 refine .of_tree rfl Yf aDU ?_;simp[WC,eN];by_cases h3:op=3
 ·simp[h3];rfl
 by_cases h4:op=4
 ·simp[h4];rfl
 by_cases h5:op=5
 ·simp[h5];rfl
 by_cases h6:op=6
 ·simp[h6];rfl
 by_cases h7:op=7
 ·simp[h7];rfl
 by_cases h8:op=8
 ·simp[h8];rfl
 simp[h3,h4,h5,h6,h7,h8];rfl
end Rm
namespace Rm
open Go Go.Proofs Cx
def fw (f:Tm→Int):List Tm→Int→Int
 |[],n=>n
 |a::l,n=>if 60<n+f a then n+f a else fw f l (n+f a)
def cM:Nat→Tm→Int
 |0,_=>61
 |L+1,t=>fw (cM L) t.args 1
def dH (f:Tm→Int)(l:List Tm):Int:=(l.map f).sum
theorem IP {f:Tm→Int}{l:List Tm}{k:Nat}(h:k<l.length):dH f (l.take (k+1))=dH f (l.take k)+f l[k]:=by
 unfold dH;rw[zY f h,List.sum_append];simp
theorem ach {f:Tm→Int}:∀{l:List Tm} {n:Int} {k:Nat},(hk:k<l.length)→(∀j,j<k→n+dH f (l.take (j+1))≤60)→60<n+dH f (l.take (k+1))→fw f l n=n+dH f (l.take (k+1))
 |a::l,n,0,hk,_,h=>by
  simp[dH] at h ⊢;unfold fw;rw[if_pos (by omega)]
 |a::l,n,k+1,hk,hj,h=>by
  have h0:=hj 0 (by omega);simp[dH] at h0;unfold fw;rw[if_neg (by omega)];have e:∀j,n+dH f ((a::l).take (j+1+1))=n+f a+dH f (l.take (j+1)):=by intro j;simp[dH];omega
  rw[ach (l:=l) (k:=k) (by simpa using hk) (fun j H6=>by have:=hj (j+1) (by omega);rw[e] at this;exact this) (by rw[←e];exact h),e]
theorem acj {f:Tm→Int}:∀{l:List Tm} {n:Int},(∀j,j<l.length→n+dH f (l.take (j+1))≤60)→fw f l n=n+dH f l
 |[],n,_=>by simp[fw,dH]
 |a::l,n,hj=>by
  have h0:=hj 0 (by simp);simp[dH] at h0;unfold fw;rw[if_neg (by omega)];have e:∀j,n+dH f ((a::l).take (j+1+1))=n+f a+dH f (l.take (j+1)):=by intro j;simp[dH];omega
  rw[acj (l:=l) (fun j fJ=>by have:=hj (j+1) (by simpa using fJ);rw[e] at this;exact this)];simp[dH];omega
theorem aci {f:Tm→Int}(hf:∀a,1≤f a):∀{l:List Tm} {n:Int},n≤fw f l n
 |[],n=>by simp[fw]
 |a::l,n=>by
  unfold fw;have:=hf a;split
  ·omega
  ·have:=aci hf (l:=l) (n:=n+f a);omega
theorem v5:∀(L:Nat) (t:Tm),1≤cM L t
 |0,t=>by simp[cM]
 |L+1,t=>aci (v5 L)
theorem ack {f:Tm→Int}{B:Int}(hf:∀a,f a≤B)(hB:0≤B):∀{l:List Tm} {n:Int},n≤60→fw f l n≤60+B
 |[],n,h=>by simp[fw];omega
 |a::l,n,h=>by
  unfold fw;have:=hf a;split
  ·omega
  ·exact ack hf hB (by omega)
theorem acn:∀(L:Nat) (t:Tm),cM L t≤61+60*L
 |0,t=>by simp[cM]
 |L+1,t=>by
  have:=ack (f:=cM L) (fun a=>acn L a) (by omega) (l:=t.args) (n:=1) (by omega);show fw _ _ _≤_;omega
theorem acm {f:Tm→Int}(hf:∀a,1≤f a):∀{l:List Tm} {n:Int},fw f l n≤60→(n:Int)+l.length≤60∧∀a,a∈l→f a≤60-n
 |[],n,h=>by simp[fw] at h ⊢;exact h
 |a::l,n,h=>by
  unfold fw at h;have:=hf a;split at h
  ·omega
  ·obtain⟨h1,h2⟩:=acm hf h;refine⟨by simp;omega,fun b hb=>?_⟩;rcases cG.1 hb with rfl|hb
   ·omega
   ·have:=h2 b hb;omega
theorem Rl {L:Nat}{t:Tm}(h:cM (L+1) t≤60):t.args.length≤59∧∀a,a∈t.args→cM L a≤60:=by
 obtain⟨h1,h2⟩:=acm (v5 L) h;exact⟨by omega,fun a ha=>by have:=h2 a ha;omega⟩
theorem UH:∀(L:Nat) (t:Tm) (lv:Int),t.OK→L≤8→lv=9-(L:Int)→ak T RK [dF t,.int lv] (.int (cM L t))
 |0,t,lv,ht,hL,Pu=>by
  refine .of_tree rfl Ns ahM ?_;subst Pu;simp[MO,cM]
 |L+1,t,lv,ht,hL,Pu=>by
  refine .of_tree rfl Ns ahM ?_;have hl:=ht.len;have h8:¬(8<lv):=by omega
  have Iy:IntKind.i64.wrap (lv+1)=lv+1:=bF (by omega);simp[MO,h8];refine .scan t.args.length (fun k=>1+dH (cM L) (t.args.take (k+1))≤60) (fun k=>[.int (1+dH (cM L) (t.args.take k)),.int k]) (fun _=>[]) ?_ (fun k hk hj ho=>?_) (fun k hk hj ho=>?_) (fun hj=>?_)
  ·simp[dH]
  all_goals try rw[IP hk] at ho
  ·have hw:IntKind.i64.wrap ((k:Int)+1)=(k:Int)+1:=bF (by omega);have ij:=UH L t.args[k] (lv+1) (ht.arg (di hk)) (by omega) (by omega);rw[IP hk];have hs:0≤dH (cM L) (t.args.take k):=by
    unfold dH;have:∀(l:List Tm),0≤(l.map (cM L)).sum:=by
     intro l
     induction l with
     |nil=>simp
     |cons a l ih=>have:=v5 L a;simp;omega
    exact this _
   have jk:=v5 L t.args[k];generalize dH (cM L) (t.args.take k)=m at*;generalize cM L t.args[k]=v at*;have rO:IntKind.i64.wrap (1+m+v)=1+m+v:=bF (by omega);have dQ:¬60<1+m+v:=by omega
   simp[Ui,E3,hk,Iy];refine⟨_,ij,?_⟩;simp[rO,dQ,hw];omega
  ·have ij:=UH L t.args[k] (lv+1) (ht.arg (di hk)) (by omega) (by omega);have hf:cM (L+1) t=1+dH (cM L) (t.args.take (k+1)):=ach hk hj (by rw[IP hk];omega);rw[hf,IP hk];have hs:0≤dH (cM L) (t.args.take k)∧1+dH (cM L) (t.args.take k)≤60:=by
    constructor
    ·unfold dH;have:∀(l:List Tm),0≤(l.map (cM L)).sum:=by
       intro l
       induction l with
       |nil=>simp
       |cons a l ih=>have:=v5 L a;simp;omega
     exact this _
    ·cases k with
     |zero=>simp[dH]
     |succ k=>exact hj k (by omega)
   have jk:=v5 L t.args[k];have dm:=acn L t.args[k];generalize dH (cM L) (t.args.take k)=m at*;generalize cM L t.args[k]=v at*;have rO:IntKind.i64.wrap (1+m+v)=1+m+v:=bF (by omega);have dQ:60<1+m+v:=by omega
   simp[Ui,E3,hk,Iy];refine⟨_,ij,?_⟩;simp[rO,dQ];omega
  ·have hf:cM (L+1) t=1+dH (cM L) t.args:=acj hj;rw[hf];simp[Ui,E3]
def mL (ws ts:List Int):Nat→Int
 |0=>-1
 |k+1=>if ws.getD k 0=-1∧mL ws ts k=-1 then ts.getD k 0 else mL ws ts k
def nJ (ws ts:List Int)(k:Nat):Bool:=if ws.getD k 0=-1 then decide (mL ws ts k=-1)||decide (ts.getD k 0=mL ws ts k) else decide (ts.getD k 0=ws.getD k 0)
def v8 (t:Tm)(ks:List Int):Int×Int:=
 if t.op<0∨13<t.op then(0,1) else if t.op=0∨t.op=1∨t.op=2 then DB t else
 if ks.length≠(eN t.op).1.length∨t.n≠0 then(0,2) else
 if ej (eN t.op).1.length (nJ (eN t.op).1 ks)=false then(0,11) else if(eN t.op).2=-1 then(mL (eN t.op).1 ks (eN t.op).1.length,0) else((eN t.op).2,0)
def cv:Nat→Tm→Int×Int
 |0,_=>(0,0)
 |L+1,t=>if fj t.args.length (fun k=>(cv L (t.args.getD k default)).2)≠0 then(0,fj t.args.length (fun k=>(cv L (t.args.getD k default)).2)) else v8 t (t.args.map fun a=>(cv L a).1)
theorem Od (L:Nat)(t:Tm):cv (L+1) t=if fj t.args.length (fun k=>(cv L (t.args.getD k default)).2)≠0 then(0,fj t.args.length (fun k=>(cv L (t.args.getD k default)).2)) else v8 t (t.args.map fun a=>(cv L a).1):=rfl
theorem Uw {α:Type}(A:List α)(z:α){k n:Nat}(hA:A.length=n)(hk:k<n):(A.take k++List.replicate (n-k) z).set k A[k]=A.take (k+1)++List.replicate (n-(k+1)) z:=by
 have h1:(A.take k).length=k:=by rw[ei];omega
 rw[List.set_append_right _ _ (by omega),h1,Nb];have:n-k=(n-(k+1))+1:=by omega
 rw[this,List.replicate_succ,List.set_cons_zero,m9 (by omega),pQ];rfl
theorem aBr (op:Int):(eN op).1.length≤3:=by
 unfold eN;repeat' split
 all_goals simp
theorem UG:∀(L:Nat) (t:Tm),t.OK→cM L t≤60→ak T RG [dF t] (.tup [.int (cv L t).1,.int (cv L t).2])
 |0,t,ht,hm=>by simp[cM] at hm
 |L+1,t,ht,hm=>by
  refine .of_tree rfl Ya aDN ?_;obtain⟨hl,hp⟩:=Rl hm;simp[Ww];refine⟨by omega,?_⟩;refine oc t.args.length (fun k=>(cv L (t.args.getD k default)).2) (fun k=>[.int 0,.int 0,.int k]) (fun k=>[ints ((t.args.map fun a=>(cv L a).1).take k++List.replicate (t.args.length-k) 0)]) ?_ (fun k hk ho=>?_) (fun k hk ho hb=>?_) (fun hj=>?_)
  ·simp[ints]
  ·have hw:=bE hk (by omega);have cV:=di hk;have ij:=UG L t.args[k] (ht.arg cV) (hp _ cV);have hs:=Uw (t.args.map fun a=>(cv L a).1) 0 (n:=t.args.length) (by simp) hk;rw[←hs];have hlen:((t.args.map fun a=>(cv L a).1).take k++List.replicate (t.args.length-k) (0:Int)).length=t.args.length:=by simp;omega
   have hgk:(t.args.map fun a=>(cv L a).1)[k]'(by simpa using hk)=(cv L t.args[k]).1:=by simp
   rw[hgk];generalize (t.args.map fun a=>(cv L a).1).take k++List.replicate (t.args.length-k) (0:Int)=A at*;simp[hk] at ho;rw[ho] at ij;generalize (cv L t.args[k]).1=kd at*;simp[Ug,E1,hk];refine⟨_,ij,?_⟩;simp[hlen,hk,hw,ints]
  ·have cV:=di hk;have ij:=UG L t.args[k] (ht.arg cV) (hp _ cV);have hf:cv (L+1) t=(0,(cv L (t.args.getD k default)).2):=by
    rw[Od,hb,if_pos ho]
   rw[hf];simp[hk] at ho ⊢;simp[Ug,E1,hk];refine⟨_,ij,?_⟩;simp[ho]
  ·have hf:cv (L+1) t=v8 t (t.args.map fun a=>(cv L a).1):=by
    rw[Od,hj];simp
   rw[hf]
   have e0:(t.args.map fun a=>(cv L a).1).take t.args.length++List.replicate (t.args.length-t.args.length) 0=t.args.map fun a=>(cv L a).1:=by
    rw[Nb,As (by simp)];simp
   rw[e0];have hkl:(t.args.map fun a=>(cv L a).1).length=t.args.length:=by simp
   generalize (t.args.map fun a=>(cv L a).1)=ks at*;simp[Ug,E1];unfold v8;by_cases h1:t.op<0
   ·simp[h1]
   by_cases h2:13<t.op
   ·simp[h1,h2]
   simp[h1,h2];by_cases h3:t.op=0∨t.op=1∨t.op=2
   ·have eR:(t.op=0∨t.op=1)∨t.op=2:=by omega
    simp[h3,eR];refine⟨_,aBJ t,?_⟩;simp
   have eR:¬((t.op=0∨t.op=1)∨t.op=2):=by omega
   simp[h3,eR];refine⟨_,aBL _,?_⟩;have hsl:=aBr t.op;generalize eN t.op=sh at*;simp;by_cases h4:ks.length=sh.1.length
   case neg=>
    have mu:¬((ks.length:Int)=sh.1.length):=by omega
    have HG:¬t.args.length=sh.1.length:=by omega
    simp[h4,mu,HG]
   have mu:(ks.length:Int)=sh.1.length:=by omega
   have HG:t.args.length=sh.1.length:=by omega
   by_cases h5:t.n=0
   case neg=>simp[h4,mu,HG,h5]
   simp[h4,mu,HG,h5];refine fP sh.1.length (nJ sh.1 ks) (fun k=>[.int 0,.int 0,.int (mL sh.1 ks k),.int k]) (fun _=>[]) ?_ (fun k hk ho=>?_) (fun k hk ho hb=>?_) (fun hj=>?_)
   ·simp[mL]
   ·have hw:=bE hk (by omega);have cD:k<ks.length:=by omega
    simp only[mL];unfold nJ at ho;simp only[aS,bK hk,bK cD,jE] at ho ⊢;generalize mL sh.1 ks k=c at*;by_cases a1:sh.1[k]=-1
    ·by_cases a2:c=-1
     ·simp[zM,uh,hk,cD,hw,ints,a1,a2]
     ·simp[a1,a2] at ho;simp[zM,uh,hk,cD,hw,ints,a1,a2,ho]
    ·simp[a1] at ho;simp[zM,uh,hk,cD,hw,ints,a1,ho]
   ·rw[hb];have cD:k<ks.length:=by omega
    unfold nJ at ho;simp only[aS,bK hk,bK cD,jE] at ho;generalize mL sh.1 ks k=c at*;by_cases a1:sh.1[k]=-1
    ·by_cases a2:c=-1
     ·simp[a1,a2] at ho
     ·simp[a1,a2] at ho;simp[zM,uh,hk,cD,ints,a1,a2,ho]
    ·simp[a1] at ho;simp[zM,uh,hk,cD,ints,a1,ho]
   ·rw[hj];simp[zM,uh];by_cases a1:sh.2=-1<;>simp[a1]
def np (t:Tm):Int×Int:=if 60<cM 8 t then(0,6) else cv 8 t
theorem ahE (t:Tm)(ht:t.OK):ak T RE [dF t] (.tup [.int (np t).1,.int (np t).2]):=by
 refine .of_tree rfl X8 aDI ?_;simp[Ws,np];refine⟨_,UH 8 t 1 ht (by omega) (by omega),?_⟩;by_cases h:60<cM 8 t
 ·simp[h]
 simp[h];refine⟨_,UG 8 t ht (by omega),?_⟩;simp
end Rm
namespace Rm
open Go Go.Proofs Cx
abbrev u (n:Nat):D:=.v (.int .u64 n)
theorem aix (n:Int):IntKind.u64.wrap n=n%18446744073709551616:=rfl
theorem Fy {n:Int}(h:0≤n∧n<18446744073709551616):IntKind.u64.wrap n=n:=by
 rw[aix];omega
theorem wX {n:Nat}(h:n<18446744073709551616):IntKind.u64.wrap (n:Int)=n:=Fy (by omega)
theorem aBs (a s:Nat)(h:s≤64):dk .shr .u64 a s=((a/2^s:Nat):Int):=by
 show Int.fdiv (a:Int) (2^(min (s:Int).toNat 64))=_;have:min (s:Int).toNat 64=s:=by simp;omega
 rw[this,aiQ _ (Int.le_of_lt (Int.pow_pos (by decide)))];rw[Int.natCast_ediv,Int.natCast_pow];rfl
theorem Nk (a:Nat)(h:a<18446744073709551616):dk .and .u64 a 4294967295=((a%4294967296:Nat):Int):=by
 show IntKind.u64.wrap ((BitVec.ofInt 64 (a:Int)&&& BitVec.ofInt 64 4294967295).toNat:Nat)=_;have e:(BitVec.ofInt 64 (a:Int)&&& BitVec.ofInt 64 4294967295).toNat=a%4294967296:=by
  rw[BitVec.toNat_and];have e1:(BitVec.ofInt 64 (a:Int)).toNat=a:=by simp[BitVec.ofInt,BitVec.toNat_ofNat];omega
  have e2:(BitVec.ofInt 64 4294967295).toNat=2^32-1:=by decide
  rw[e1,e2,Nat.and_two_pow_sub_one_eq_mod]
 rw[e,wX (by omega)]
@[simp] theorem zT (a:Nat):dk .shr .u64 a 32=((a/4294967296:Nat):Int):=aBs a 32 (by decide)
set_option maxHeartbeats 2000000 in
theorem ayv (a b:Nat)(ha:a<18446744073709551616)(hb:b<18446744073709551616):ak T acK [u a,u b] (.tup [u (a*b/18446744073709551616),u (a*b%18446744073709551616)]):=by
 refine .of_tree rfl ajK aB4 ?_;obtain⟨h1,h2,h3,h4⟩:=Go.Lib.mul64_hi a b ha hb;have elo:IntKind.u64.wrap ((a:Int)*(b:Int))=((a*b%18446744073709551616:Nat):Int):=by rw[aix,Int.natCast_emod,Ao];rfl
 have Ou:dk .shr .u64 (a:Int) 32=((a/4294967296:Nat):Int):=zT a;have ea0:dk .and .u64 (a:Int) 4294967295=((a%4294967296:Nat):Int):=Nk a ha;have Ov:dk .shr .u64 (b:Int) 32=((b/4294967296:Nat):Int):=zT b;have eb0:dk .and .u64 (b:Int) 4294967295=((b%4294967296:Nat):Int):=Nk b hb;have aI4:=Go.Lib.half_mul_le (a:=a/4294967296) (b:=b/4294967296) (by omega) (by omega);have aI3:=Go.Lib.half_mul_le (a:=a/4294967296) (b:=b%4294967296) (by omega) (by omega);have aI2:=Go.Lib.half_mul_le (a:=a%4294967296) (b:=b/4294967296) (by omega) (by omega);have aI1:=Go.Lib.half_mul_le (a:=a%4294967296) (b:=b%4294967296) (by omega) (by omega);have Po:a*b/18446744073709551616<18446744073709551616:=by
  have:a*b<18446744073709551616*18446744073709551616:=Nat.mul_lt_mul'' ha hb;exact Nat.div_lt_of_lt_mul this
 simp only[UW];generalize a/4294967296=a1 at*;generalize a%4294967296=a0 at*;generalize b/4294967296=b1 at*;generalize b%4294967296=b0 at*;have p11:IntKind.u64.wrap ((a1:Int)*(b1:Int))=((a1*b1:Nat):Int):=by rw[←Ao];exact wX (by omega)
 have p10:IntKind.u64.wrap ((a1:Int)*(b0:Int))=((a1*b0:Nat):Int):=by rw[←Ao];exact wX (by omega)
 have p01:IntKind.u64.wrap ((a0:Int)*(b1:Int))=((a0*b1:Nat):Int):=by rw[←Ao];exact wX (by omega)
 have p00:IntKind.u64.wrap ((a0:Int)*(b0:Int))=((a0*b0:Nat):Int):=by rw[←Ao];exact wX (by omega)
 rw[←h4] at Po ⊢;generalize a1*b1=P at*;generalize a1*b0=Q at*;generalize a0*b1=R at*;generalize a0*b0=S at*;have s1:dk .shr .u64 (S:Int) 32=((S/4294967296:Nat):Int):=zT S;have s2:IntKind.u64.wrap ((Q:Int)+((S/4294967296:Nat):Int))=((Q+S/4294967296:Nat):Int):=by rw[Fy (by omega)];omega
 generalize S/4294967296=S1 at*;generalize hT:Q+S1=TT at*;have s3:dk .shr .u64 (TT:Int) 32=((TT/4294967296:Nat):Int):=zT TT;have s4:dk .and .u64 (TT:Int) 4294967295=((TT%4294967296:Nat):Int):=Nk TT (by omega);have s5:IntKind.u64.wrap (((TT%4294967296:Nat):Int)+(R:Int))=((TT%4294967296+R:Nat):Int):=by rw[Fy (by omega)];omega
 generalize hU:TT%4294967296+R=U at*;have s6:dk .shr .u64 (U:Int) 32=((U/4294967296:Nat):Int):=zT U;have s7:IntKind.u64.wrap ((P:Int)+((TT/4294967296:Nat):Int))=((P+TT/4294967296:Nat):Int):=by rw[Fy (by omega)];omega
 have s8:IntKind.u64.wrap (((P+TT/4294967296:Nat):Int)+((U/4294967296:Nat):Int))=((P+TT/4294967296+U/4294967296:Nat):Int):=by rw[Fy (by omega)];omega
 simp[-zT,-Int.natCast_add,-Int.natCast_mul,-Int.natCast_ediv,-Int.natCast_emod,elo,Ou,ea0,Ov,eb0,p11,p10,p01,p00,s1,s2,s3,s4,s5,s6,s7,s8]
def sc (m:Nat):Int:=if m<1099511627776 then m else 1099511627776
def zf (a b:Int):Int:=if(decide (a<0)!=decide (b<0))=true then-sc (a.natAbs*b.natAbs) else sc (a.natAbs*b.natAbs)
theorem af3 (m:Nat):0≤sc m∧sc m≤1099511627776:=by unfold sc;split<;>omega
set_option maxHeartbeats 1000000 in
theorem aBK (a b:Int)(ha:-1099511627776≤a∧a≤1099511627776)(hb:-1099511627776≤b∧b≤1099511627776):ak T aea [.int a,.int b] (.int (zf a b)):=by
 refine .of_tree rfl ali aDT ?_;have wa:IntKind.u64.wrap (a.natAbs:Int)=a.natAbs:=wX (by omega);have wb:IntKind.u64.wrap (b.natAbs:Int)=b.natAbs:=wX (by omega);have w0a:IntKind.i64.wrap (0-a)=-a:=by rw[bF (by omega)];omega
 have w0b:IntKind.i64.wrap (0-b)=-b:=by rw[bF (by omega)];omega
 have aEi:IntKind.i64.wrap (-a)=-a:=bF (by omega);have aEj:IntKind.i64.wrap (-b)=-b:=bF (by omega);have ea:(if a< -a then D.int (-a) else D.int a)=D.int a.natAbs:=by split<;>congr 1<;>omega
 have eb:(if b< -b then D.int (-b) else D.int b)=D.int b.natAbs:=by split<;>congr 1<;>omega
 have ea':(if a< -a then-a else a)=(a.natAbs:Int):=by split<;>omega
 have eb':(if b< -b then-b else b)=(b.natAbs:Int):=by split<;>omega
 simp[WB,aEi,aEj,ea,eb,ea',eb'];rw[wa,wb];refine⟨_,ayv a.natAbs b.natAbs (by omega) (by omega),?_⟩;unfold zf;generalize a.natAbs*b.natAbs=m;have hs:(decide (a<0)!=decide (b<0))=false↔(a<0↔b<0):=by
  by_cases h1:a<0<;>by_cases h2:b<0<;>simp[h1,h2]
 have key:((if((m/18446744073709551616:Nat):Int)=0∧((m%18446744073709551616:Nat):Int)<1099511627776 then IntKind.i64.wrap ((m%18446744073709551616:Nat):Int) else 1099511627776):Int)=sc m:=by
  unfold sc;by_cases hm:m<1099511627776
  ·have h1:m/18446744073709551616=0:=by omega
   have h2:m%18446744073709551616=m:=by omega
   rw[h1,h2,if_pos ⟨rfl,by omega⟩,if_pos hm,bF (by omega)]
  ·rw[if_neg hm,if_neg];rintro⟨h1,h2⟩;omega
 have fZ:=af3 m;have avT:(if((m/18446744073709551616:Nat):Int)=0∧((m%18446744073709551616:Nat):Int)<1099511627776 then D.int (IntKind.i64.wrap ((m%18446744073709551616:Nat):Int)) else D.int 1099511627776)=D.int (sc m):=by
  rw[←key];split<;>rfl
 show(if a<0↔b<0 then(if((m/18446744073709551616:Nat):Int)=0∧((m%18446744073709551616:Nat):Int)<1099511627776 then D.int (IntKind.i64.wrap ((m%18446744073709551616:Nat):Int)) else D.int 1099511627776)=_ else
  IntKind.i64.wrap (-(if((m/18446744073709551616:Nat):Int)=0∧((m%18446744073709551616:Nat):Int)<1099511627776 then IntKind.i64.wrap ((m%18446744073709551616:Nat):Int) else 1099511627776))=_)
 rw[avT,key];generalize sc m=n at*;split
 ·rename_i h;rw[hs.2 h];simp
 ·rename_i h;have:(decide (a<0)!=decide (b<0))=true:=by
   cases e:(decide (a<0)!=decide (b<0)) with
   |true=>rfl
   |false=>exact absurd (hs.1 e) h
  rw[this,bF (by omega)];simp
def xr (op a b:Int):Int:=if op=9 then oI (a+b) else if op=10 then oI (a-b) else if op=11 then zf a b else if op=12 then min a b else max a b
theorem aBH (op a b:Int)(ha:-1099511627776≤a∧a≤1099511627776)(hb:-1099511627776≤b∧b≤1099511627776):ak T ad8 [.int op,.int a,.int b] (.int (xr op a b)):=by
 refine .of_tree rfl alg aDM ?_;have w1:IntKind.i64.wrap (a+b)=a+b:=bF (by omega);have w2:IntKind.i64.wrap (a-b)=a-b:=bF (by omega);simp[Wv,xr,w1,w2];by_cases h1:op=9
 ·simp[h1];exact MG _
 by_cases h2:op=10
 ·simp[h1,h2];exact MG _
 by_cases h3:op=11
 ·simp[h1,h2,h3];exact aBK a b ha hb
 by_cases h4:op=12
 ·simp[h1,h2,h3,h4];by_cases h5:b<a<;>simp[h5]<;>omega
 simp[h1,h2,h3,h4];by_cases h5:b>a<;>simp[h5]<;>omega
def gz (b:Bool):Cell:=if b then⟨true,1⟩ else⟨true,0⟩
theorem uw (b:Bool):ak T RM [.bool b] (cR (gz b)):=by
 refine .of_tree rfl Yg aDV ?_;cases b<;>simp[WD,gz]<;>rfl
def dK:Cell:=⟨false,0⟩
@[simp] theorem aJX:D.agg [.bool false,.int 0]=cR dK:=_root_.id rfl
@[simp] theorem aJY:dK.known=false:=rfl
@[simp] theorem aJZ:dK.n=0:=rfl
def cellAt (cs:List Cell)(v:Int):Cell:=cs.getD v.toNat default
def ln (cs:List Cell)(v:Int):Cell:=if cs.length≤v.toNat∨(cellAt cs v).known=false then dK else if(l6 v).1=1 then gz (decide ((cellAt cs v).n≠0)) else⟨true,oI (cellAt cs v).n⟩
abbrev Ox (cs:List Cell):D:=.agg [cells cs]
theorem aBM (cs:List Cell)(v:Int)(hv:0≤v):ak T RJ [Ox cs,.int v] (cR (ln cs v)):=by
 refine .of_tree rfl Ye aDS ?_;obtain⟨k,rfl⟩:=uI hv;simp[WA,ln,cellAt];by_cases h1:cs.length≤k
 ·simp[h1]
 have cA:k<cs.length:=by omega
 simp[h1,cA];cases h2:cs[k].known
 ·simp[h2]
 simp[h2];refine⟨_,ahF _,?_⟩;by_cases h3:(l6 k).1=1
 ·simp[h3,cA];refine⟨_,uw _,?_⟩;simp;rfl
 ·simp[h3,cA];refine⟨_,MG _,?_⟩;simp;rfl
@[simp] theorem aJl (a b:Int):(a==b)=decide (a=b):=_root_.id rfl
@[simp] theorem aJm (a b:Int):(a !=b)= !decide (a=b):=_root_.id rfl
def br (l:List Cell)(k:Nat):Cell:=l.getD k default
def gI (op:Int)(l:List Cell):Cell:=
 if op=3 then(if(br l 0).known=true then gz (decide ((br l 0).n=0)) else dK)
 else if(op=4∨op=5)∧(br l 0=gz (decide (op=5))∨br l 1=gz (decide (op=5))) then gz (decide (op=5))
 else if op=6 then(if(br l 1).known=true∧br l 1=br l 2 then br l 1 else dK)
 else if(br l 0).known=false∨(br l 1).known=false then dK
 else if op=4∨op=5 then gz (decide (op=4))
 else if op=7 then gz (decide ((br l 0).n<(br l 1).n)) else if op=8 then gz (decide ((br l 0).n=(br l 1).n)) else⟨true,xr op (br l 0).n (br l 1).n⟩
theorem al6 (a b:Cell):a=b↔a.known=b.known∧a.n=b.n:=by cases a;cases b;simp
theorem aBI (op:Int)(l:List Cell)(h1:1≤l.length)(h2:op≠3→2≤l.length)(h3:op=6→3≤l.length)
 (hb:9≤op→(-1099511627776≤(br l 0).n∧(br l 0).n≤1099511627776)∧(-1099511627776≤(br l 1).n∧(br l 1).n≤1099511627776)) (h9:op<3∨8<op→9≤op):
 ak T RH [.int op,cells l] (cR (gI op l)):=by
 refine .of_tree rfl Yb aDO ?_;have g0:0<l.length:=by omega
 have vd:l[0]=br l 0:=by simp[br,g0]
 simp[Wx];unfold gI;by_cases o3:op=3
 ·simp[o3,g0,vd];cases e:(br l 0).known
  ·simp
  ·simp[g0];refine⟨_,uw _,?_⟩;simp
 have g1:1<l.length:=by have:=h2 o3;omega
 have Cv:l[1]=br l 1:=by simp[br,g1]
 have eQ:(1:Int)<l.length:=by omega
 simp[o3];have fin:∀a b:Cell,(a=b)=(a.known=b.known∧a.n=b.n):=fun a b=>propext (al6 a b);rcases FD (op=4) with o4|o4
 ·subst o4;simp;refine⟨_,uw _,?_⟩;simp[g0,g1,eQ,vd,Cv,fin];split
  ·rfl
  ·split
   ·rfl
   ·refine⟨_,uw _,?_⟩;simp
 rcases FD (op=5) with o5|o5
 ·subst o5;simp;refine⟨_,uw _,?_⟩;simp[g0,g1,eQ,vd,Cv,fin];split
  ·rfl
  ·split
   ·rfl
   ·refine⟨_,uw _,?_⟩;simp
 rcases FD (op=6) with o6|o6
 ·subst o6;have g2:2<l.length:=by have:=h3 rfl;omega
  have gg2:l[2]=br l 2:=by simp[br,g2]
  have nv:(2:Int)<l.length:=by omega
  simp[g1,g2,eQ,nv,Cv,gg2,fin];cases e1:(br l 1).known
  ·simp
  by_cases e2:(br l 1).known=(br l 2).known∧(br l 1).n=(br l 2).n
  ·rw[e1] at e2;simp[e1,e2]
  ·rw[e1] at e2;have sR:¬((br l 2).known=true∧(br l 1).n=(br l 2).n):=fun h=>e2 ⟨h.1.symm,h.2⟩;simp only[e1,true_and,if_true]
   first|(rw[if_neg sR,if_neg sR])|(simp[sR])
 simp[o4,o5,o6,g0,g1,eQ,vd,Cv];cases e1:(br l 0).known
 ·simp
 cases e2:(br l 1).known
 ·simp
 simp[g1,eQ,Cv];rcases FD (op=7) with o7|o7
 ·subst o7;simp;refine⟨_,uw _,?_⟩;simp
 rcases FD (op=8) with o8|o8
 ·subst o8;simp;refine⟨_,uw _,?_⟩;simp
 simp[o7,o8];obtain⟨b1,b2⟩:=hb (h9 (by omega));refine⟨_,aBH op _ _ b1 b2,?_⟩;simp;rfl
end Rm
namespace Rm
open Go Go.Proofs Cx
def bN:Nat→List Cell→Tm→Cell
 |0,_,_=>dK
 |L+1,cs,t=>if t.op=0∨t.op=1 then⟨true,t.n⟩ else if t.op=2 then ln cs t.n else
   if t.op=6∧(br (t.args.map (bN L cs)) 0).known=true then br (t.args.map (bN L cs)) (2-(br (t.args.map (bN L cs)) 0).n).toNat else gI t.op (t.args.map (bN L cs))
def dU:Nat→List Cell→Tm→List Int
 |0,_,_=>[]
 |L+1,cs,t=>if t.op=0∨t.op=1 then[] else if t.op=2 then(if(ln cs t.n).known=true then[] else[t.n]) else
   if t.op=6∧(br (t.args.map (bN L cs)) 0).known=true then(t.args.map (dU L cs)).getD (2-(br (t.args.map (bN L cs)) 0).n).toNat [] else
   if(gI t.op (t.args.map (bN L cs))).known=true then[] else(t.args.map (dU L cs)).flatten
theorem Hs (L:Nat)(cs:List Cell)(t:Tm):bN (L+1) cs t=if t.op=0∨t.op=1 then⟨true,t.n⟩ else if t.op=2 then ln cs t.n else
 if t.op=6∧(br (t.args.map (bN L cs)) 0).known=true then br (t.args.map (bN L cs)) (2-(br (t.args.map (bN L cs)) 0).n).toNat else gI t.op (t.args.map (bN L cs)):=rfl
theorem IZ (L:Nat)(cs:List Cell)(t:Tm):dU (L+1) cs t=if t.op=0∨t.op=1 then[] else if t.op=2 then(if(ln cs t.n).known=true then[] else[t.n]) else
 if t.op=6∧(br (t.args.map (bN L cs)) 0).known=true then(t.args.map (dU L cs)).getD (2-(br (t.args.map (bN L cs)) 0).n).toNat [] else
 if(gI t.op (t.args.map (bN L cs))).known=true then[] else(t.args.map (dU L cs)).flatten:=rfl
theorem Oe {L:Nat}{t:Tm}{k:Int}(h:cv (L+1) t=(k,0)):(∀a,a∈t.args→(cv L a).2=0)∧v8 t (t.args.map fun a=>(cv L a).1)=(k,0):=by
 rw[Od] at h;by_cases e:fj t.args.length (fun k=>(cv L (t.args.getD k default)).2)=0
 ·rw[if_neg (by simpa using e)] at h;refine⟨fun a ha=>?_,h⟩;obtain⟨j,hj,rfl⟩:=jB ha;have:=ZJ.1 e j hj;simpa [hj] using this
 ·rw[if_pos e] at h;injection h with _ h
  exact absurd h e
inductive Node (ks:List Int) (t:Tm):Int→Prop where
 |int (h:t.op=0) (ha:t.args=[]) (hn:-1099511627776≤t.n∧t.n≤1099511627776):Node ks t 0
 |bool (h:t.op=1) (ha:t.args=[]) (hn:t.n=0∨t.n=1):Node ks t 1
 |var (h:t.op=2) (ha:t.args=[]) (hn:0≤t.n∧t.n≤19):Node ks t (l6 t.n).1
 |not (h:t.op=3) (hk:ks=[1]):Node ks t 1
 |log (h:t.op=4∨t.op=5) (hk:ks=[1,1]):Node ks t 1
 |ite (k:Int) (h:t.op=6) (hk:ks=[1,k,k]):Node ks t k
 |less (h:t.op=7) (hk:ks=[0,0]):Node ks t 1
 |equal (k:Int) (h:t.op=8) (hk:ks=[k,k]):Node ks t 1
 |num (h:9≤t.op∧t.op≤13) (hk:ks=[0,0]):Node ks t 0
theorem aEg (v:Int):(l6 v).1=0∨(l6 v).1=1:=by
 unfold l6;repeat' split
 all_goals simp
theorem ayI {t:Tm}{ks:List Int}{k:Int}(hl:ks.length=t.args.length)(iM:∀x,x∈ks→x=0∨x=1)(h:v8 t ks=(k,0)):Node ks t k:=by
 unfold v8 at h;split at h
 ·injection h with _ h;cases h
 rename_i bP;split at h
 ·rename_i h3;unfold DB at h;split at h
  ·injection h with _ h;cases h
  rename_i ha0;have ha:t.args=[]:=Xq (by omega);split at h
  ·rename_i h0;split at h
   ·injection h with _ h;cases h
   ·rename_i hc;injection h with h _
    subst h;refine .int h0 ha ?_;unfold oI at hc;omega
  split at h
  ·rename_i h0;split at h
   ·injection h with _ h;cases h
   ·rename_i hc;injection h with h _
    subst h;exact .bool h0 ha (by omega)
  split at h
  ·injection h with _ h;cases h
  ·rename_i g0 g1 hc;injection h with h _
   subst h;refine .var (by omega) ha ?_;unfold l6 at hc;split at hc
   ·simp at hc
   ·omega
 rename_i h3;split at h
 ·injection h with _ h;cases h
 rename_i hlen;have nD:ks.length=(eN t.op).1.length:=by
  refine Am fun hh=>hlen (.inl hh)
 split at h
 ·injection h with _ h;cases h
 rename_i aE;have jr:∀j,j<(eN t.op).1.length→nJ (eN t.op).1 ks j=true:=xo.1 (by simpa using aE)
 have two:∀{n:Nat},ks.length=2→∃a b,ks=[a,b]:=fun h=>by
  match ks,h with
  |[a,b],_=>exact⟨a,b,rfl⟩
 by_cases o3:t.op=3
 ·have e:eN t.op=([1],1):=by simp[eN,o3]
  rw[e] at nD jr h
  match ks,nD with
  |[a],_=>
   have:=jr 0 (by simp);simp[nJ] at this;simp at h;subst h this;exact .not o3 rfl
 by_cases I3:t.op=4∨t.op=5
 ·have e:eN t.op=([1,1],1):=by simp[eN,o3,I3]
  rw[e] at nD jr h
  match ks,nD with
  |[a,b],_=>
   have t1:=jr 0 (by simp);have t2:=jr 1 (by simp);simp[nJ] at t1 t2;simp at h;subst h t1 t2;exact .log I3 rfl
 by_cases o6:t.op=6
 ·have e:eN t.op=([1,-1,-1],-1):=by simp[eN,o6]
  rw[e] at nD jr h
  match ks,nD,iM with
  |[a,b,c],_,iM=>
   have t1:=jr 0 (by simp);have t3:=jr 2 (by simp);have hb:=iM b (by simp);have qk:¬b=-1:=by omega
   simp[nJ] at t1;simp[nJ,mL,qk] at t3;simp[mL,qk] at h;subst h t1 t3;exact .ite _ o6 rfl
 by_cases o7:t.op=7
 ·have e:eN t.op=([0,0],1):=by simp[eN,o7]
  rw[e] at nD jr h
  match ks,nD with
  |[a,b],_=>
   have t1:=jr 0 (by simp);have t2:=jr 1 (by simp);simp[nJ] at t1 t2;simp at h;subst h t1 t2;exact .less o7 rfl
 by_cases o8:t.op=8
 ·have e:eN t.op=([-1,-1],1):=by simp[eN,o8]
  rw[e] at nD jr h
  match ks,nD,iM with
  |[a,b],_,iM=>
   have t2:=jr 1 (by simp);have ha:=iM a (by simp);have han:¬a=-1:=by omega
   simp[nJ,mL,han] at t2;simp at h;subst h t2;exact .equal _ o8 rfl
 have e:eN t.op=([0,0],0):=by simp[eN,o3,I3,o6,o7,o8]
 rw[e] at nD jr h
 match ks,nD with
 |[a,b],_=>
  have t1:=jr 0 (by simp);have t2:=jr 1 (by simp);simp[nJ] at t1 t2;simp at h;subst h t1 t2;exact .num (by omega) rfl
theorem Of:∀{L:Nat} {t:Tm} {k:Int},cv (L+1) t=(k,0)→Node (t.args.map fun a=>(cv L a).1) t k∧(k=0∨k=1)
 |L,t,k,h=>by
  obtain⟨h1,h2⟩:=Oe h
  have iM:∀x,x∈(t.args.map fun a=>(cv L a).1)→x=0∨x=1:=by
   intro x hx;obtain⟨a,ha,rfl⟩:=dx.1 hx;cases L with
   |zero=>exact .inl rfl
   |succ L=>exact(Of (L:=L) (t:=a) (k:=(cv (L+1) a).1) (by rw[←h1 a ha])).2
  have hn:=ayI (by simp) iM h2;refine⟨hn,?_⟩;cases hn with
  |int=>simp
  |bool=>simp
  |var=>exact aEg _
  |not=>simp
  |log=>simp
  |ite k _ hk=>exact iM k (by rw[hk];simp)
  |less=>simp
  |equal=>simp
  |num=>simp
end Rm
namespace Rm
open Go Go.Proofs Cx
def uQ (k:Int)(c:Cell):Prop:=(c.known=false→c=dK)∧(c.known=true→(k=1→c.n=0∨c.n=1)∧(k=0→-1099511627776≤c.n∧c.n≤1099511627776))
theorem uj (k:Int):uQ k dK:=⟨fun _=>rfl,fun h=>by cases h⟩
theorem zP (b:Bool):uQ 1 (gz b):=⟨fun h=>(by cases b<;>cases h),fun _=>⟨fun _=>(by cases b<;>simp[gz]),fun h=>by cases h⟩⟩
theorem Ol (n:Int):-1099511627776≤oI n∧oI n≤1099511627776:=by unfold oI;omega
theorem aA2 (cs:List Cell)(v:Int)(hv:0≤v∧v≤19):uQ (l6 v).1 (ln cs v):=by
 unfold ln;split
 ·exact uj _
 ·split
  ·rename_i h;rw[h];exact zP _
  ·rename_i h;refine⟨fun h=>(by cases h),fun _=>⟨fun h'=>absurd h' h,fun _=>Ol _⟩⟩
theorem az3 (a b:Int):-1099511627776≤zf a b∧zf a b≤1099511627776:=by
 unfold zf;have:=af3 (a.natAbs*b.natAbs);split<;>omega
theorem ajm (op a b:Int)(ha:-1099511627776≤a∧a≤1099511627776)(hb:-1099511627776≤b∧b≤1099511627776):-1099511627776≤xr op a b∧xr op a b≤1099511627776:=by
 unfold xr;split
 ·exact Ol _
 split
 ·exact Ol _
 split
 ·exact az3 _ _
 split<;>omega
theorem ayd {α β:Type}{f:α→β}{l:List α}{x:β}(h:l.map f=[x]):∃a,l=[a]∧f a=x:=by
 match l,h with
 |[a],h=>exact⟨a,rfl,by simpa using h⟩
theorem yN {α β:Type}{f:α→β}{l:List α}{x y:β}(h:l.map f=[x,y]):∃a b,l=[a,b]∧f a=x∧f b=y:=by
 match l,h with
 |[a,b],h=>exact⟨a,b,rfl,by simpa using h⟩
theorem Rj {α β:Type}{f:α→β}{l:List α}{x y z:β}(h:l.map f=[x,y,z]):∃a b c,l=[a,b,c]∧f a=x∧f b=y∧f c=z:=by
 match l,h with
 |[a,b,c],h=>exact⟨a,b,c,rfl,by simpa using h⟩
theorem ZA:∀{L:Nat} {t:Tm} {k:Int} (cs:List Cell),cv L t=(k,0)→uQ k (bN L cs t)
 |0,t,k,cs,h=>uj _
 |L+1,t,k,cs,h=>by
  obtain⟨hn,hk⟩:=Of h;obtain⟨ha,_⟩:=Oe h;have ih:∀a,a∈t.args→uQ (cv L a).1 (bN L cs a):=fun a hm=>ZA cs (show cv L a=((cv L a).1,0) by rw[←ha a hm]);rw[Hs];cases hn with
  |int h0 ha hn=>rw[if_pos (.inl h0)];exact⟨fun h=>(by cases h),fun _=>⟨fun h=>(by cases h),fun _=>hn⟩⟩
  |bool h0 ha hn=>rw[if_pos (.inr h0)];exact⟨fun h=>(by cases h),fun _=>⟨fun _=>hn,fun h=>by cases h⟩⟩
  |var h0 ha hn=>rw[if_neg (by omega),if_pos h0];exact aA2 cs _ hn
  |not h0 hk=>
   rw[if_neg (by omega),if_neg (by omega),if_neg (by omega)];unfold gI;rw[if_pos h0];split
   ·exact zP _
   ·exact uj _
  |log h0 hk=>
   rw[if_neg (by omega),if_neg (by omega),if_neg (by omega)];unfold gI;rw[if_neg (by omega)];split
   ·exact zP _
   rw[if_neg (by omega)];split
   ·exact uj _
   exact zP _
  |ite k h0 cD=>
   obtain⟨a,b,c,hl,e1,e2,e3⟩:=Rj cD;rw[hl] at ih ⊢;have r1:=ih a (by simp);have r2:=ih b (by simp);have r3:=ih c (by simp);rw[e1] at r1;rw[e2] at r2;rw[e3] at r3;rw[if_neg (by omega),if_neg (by omega)];simp only[gE,FN,br,uM];split
   ·rename_i hh;rcases(r1.2 hh.2).1 rfl with h1|h1<;>rw[h1]
    ·exact r3
    ·exact r2
   ·unfold gI;rw[if_neg (by omega),if_neg (by omega),if_pos h0];simp only[br,uM,FJ];split
    ·exact r2
    ·exact uj _
  |less h0 hk=>
   rw[if_neg (by omega),if_neg (by omega),if_neg (by omega)];unfold gI;rw[if_neg (by omega),if_neg (by omega),if_neg (by omega)];split
   ·exact uj _
   repeat' split
   all_goals exact zP _
  |equal k h0 hk=>
   rw[if_neg (by omega),if_neg (by omega),if_neg (by omega)];unfold gI;rw[if_neg (by omega),if_neg (by omega),if_neg (by omega)];split
   ·exact uj _
   repeat' split
   all_goals exact zP _
  |num h0 cD=>
   obtain⟨a,b,hl,e1,e2⟩:=yN cD;rw[hl] at ih ⊢;have r1:=ih a (by simp);have r2:=ih b (by simp);rw[e1] at r1;rw[e2] at r2;rw[if_neg (by omega),if_neg (by omega),if_neg (by omega)];unfold gI;rw[if_neg (by omega),if_neg (by omega),if_neg (by omega)];simp only[gE,FN,br,uM,FJ];split
   ·exact uj _
   rename_i CY;rw[if_neg (by omega),if_neg (by omega),if_neg (by omega)];have k1:(bN L cs a).known=true:=by
    cases e:(bN L cs a).known with
    |true=>rfl
    |false=>exact absurd (.inl e) CY
   have k2:(bN L cs b).known=true:=by
    cases e:(bN L cs b).known with
    |true=>rfl
    |false=>exact absurd (.inr e) CY
   exact⟨fun h=>(by cases h),fun _=>⟨fun h=>(by cases h),fun _=>ajm _ _ _ ((r1.2 k1).2 rfl) ((r2.2 k2).2 rfl)⟩⟩
theorem aee:∀(L:Nat) (cs:List Cell) (t:Tm),cM L t≤60→((dU L cs t).length:Int)≤cM L t
 |0,cs,t,h=>by simp[cM] at h
 |L+1,cs,t,h=>by
  have h1:=v5 (L+1) t;obtain⟨hl,hp⟩:=Rl h;have hs:∀(l:List Tm) (n:Int),(∀a,a∈l→cM L a≤60)→fw (cM L) l n≤60→((l.map (dU L cs)).flatten.length:Int)+n≤fw (cM L) l n∧∀j,(((l.map (dU L cs)).getD j []).length:Int)+n≤fw (cM L) l n:=by
   intro l
   induction l with
   |nil=>intro n _ _;simp[fw]
   |cons a l ih=>
    intro n hp hm;have ha:=aee L cs a (hp a (by simp));unfold fw at hm ⊢;split at hm
    ·omega
    ·rename_i h60;rw[if_neg h60];obtain⟨i1,i2⟩:=ih (n+cM L a) (fun b hb=>hp b (by simp[hb])) hm;refine⟨by rw[gE,Xu,j4];omega,fun j=>?_⟩;cases j with
     |zero=>simp;omega
     |succ j=>have:=i2 j;simp at this ⊢;omega
  obtain⟨hs1,eC⟩:=hs t.args 1 hp h;rw[IZ];split
  ·simp;omega
  split
  ·split<;>simp<;>omega
  split
  ·have:=eC (2-(br (t.args.map (bN L cs)) 0).n).toNat;show _≤fw _ _ _;omega
  split
  ·simp;omega
  ·show _≤fw _ _ _;omega
@[simp] theorem aKR (x y:List Int):uu (ints x) 0 (ints y)=ints y:=_root_.id rfl
@[simp] theorem aBx (x y:Cell):uu (cR x) 0 (cR y)=cR y:=_root_.id rfl
@[simp] theorem aJn (a b:List Int):D.list (a.map D.int++b.map D.int)=ints (a++b):=by simp[ints]
def lists (l:List (List Int)):D:=.list (l.map ints)
@[simp] theorem aJA (l:List (List Int)):(lists l).l=l.map ints:=_root_.id rfl
theorem aiE (l:List (List Int))(hl:l.length≤1000)(hs:l.flatten.length≤1000000):ak T RA [lists l] (ints l.flatten):=by
 refine .of_tree rfl X4 aDp ?_;simp[Wb];have hb:∀k,(l.take k).flatten.length≤l.flatten.length:=by
  intro k
  conv=>rhs;rw[←M8 k l]
  rw[List.flatten_append,j4];omega
 have bH:∀k (hk:k<l.length),(l.take (k+1)).flatten=(l.take k).flatten++l[k]:=fun k hk=>by
  rw[m9 hk,List.flatten_append];simp
 refine aY.forRounds l.length (fun k=>[.int ((l.take k).flatten.length:Nat),.int k]) (fun k=>[]) ?_ (fun k hk=>?_) ?_
 ·simp
 ·have hw:=bE hk (by omega);have h1:=bH k hk;have h2:=hb (k+1);rw[h1] at h2 ⊢;rw[j4] at h2 ⊢;generalize (l.take k).flatten.length=m at*;have rO:IntKind.i64.wrap ((m:Int)+(l[k].length:Int))=(m:Int)+l[k].length:=bF (by omega);have rL:¬((m:Int)+l[k].length<0):=by omega
  simp[agV,Me,hk,hw,rO,rL]
 ·simp[agV,Me];have aaH:ak T 266 [.list [],.int (l.flatten.length:Nat)] (.list []):=by
   refine .of_ext (g:=fun _ ds=>Cw ds) rfl ⟨0,fun _ _=>?_⟩;show(if(0:Int)≤(l.flatten.length:Nat)∧((l.flatten.length:Nat):Int)≤4294967296 then some (D.list []) else none)=some (D.list []);rw[if_pos (by omega)]
  rw[List.length_flatten] at aaH;refine⟨_,aaH,?_⟩;refine aY.forRounds l.length (fun k=>[.none,.int k]) (fun k=>[ints (l.take k).flatten]) ?_ (fun k hk=>?_) ?_
  ·simp[ints]
  ·have hw:=bE hk (by omega);have h1:=bH k hk;have h2:=hb (k+1);rw[h1] at h2 ⊢;rw[j4] at h2;generalize (l.take k).flatten=m at*;simp[agW,Mf,hk,hw];omega
  ·simp[agW,Mf]
theorem aol {op:Int}{l:List Cell}(h:(gI op l).known=false):gI op l=dK:=by
 have hy:∀b,(gz b).known=true:=fun b=>by cases b<;>simp[gz]
 unfold gI at h ⊢;split<;>rename_i c1
 ·rw[if_pos c1] at h;split<;>rename_i c2
  ·rw[if_pos c2,hy] at h;cases h
  ·rfl
 rw[if_neg c1] at h;split<;>rename_i c2
 ·rw[if_pos c2,hy] at h;cases h
 rw[if_neg c2] at h;split<;>rename_i c3
 ·rw[if_pos c3] at h;split<;>rename_i c4
  ·rw[if_pos c4,c4.1] at h;cases h
  ·rfl
 rw[if_neg c3] at h;split<;>rename_i c4
 ·rfl
 rw[if_neg c4] at h
 repeat' split at h
 all_goals first|(rw[hy] at h;cases h)|cases h
theorem ahG:∀(L:Nat) (cs:List Cell) (t:Tm) (k:Int),t.OK→cM L t≤60→cv L t=(k,0)→ak T IY [Ox cs,dF t] (.tup [cR (bN L cs t),ints (dU L cs t)])
 |0,cs,t,k,ht,hm,hc=>by simp[cM] at hm
 |L+1,cs,t,k,ht,hm,hc=>by
  refine .of_tree rfl Yd aDR ?_;obtain⟨hl,hp⟩:=Rl hm;obtain⟨ha,_⟩:=Oe hc;obtain⟨hn,aIW⟩:=Of hc;have ij:∀a,a∈t.args→ak T IY [Ox cs,dF a] (.tup [cR (bN L cs a),ints (dU L cs a)]):=fun a eW=>ahG L cs a (cv L a).1 (ht.arg eW) (hp a eW) (by rw[←ha a eW]);have Dj:∀a,a∈t.args→uQ (cv L a).1 (bN L cs a):=fun a eW=>ZA cs (show cv L a=((cv L a).1,0) by rw[←ha a eW]);have hnl:∀a,a∈t.args→(dU L cs a).length≤60:=fun a eW=>by have:=aee L cs a (hp a eW);have:=hp a eW;omega
  by_cases iM:t.op=0∨t.op=1
  ·
   have e1:bN (L+1) cs t=⟨true,t.n⟩:=by rw[Hs,if_pos iM]
   have e2:dU (L+1) cs t=[]:=by rw[IZ,if_pos iM]
   rw[e1,e2];rcases iM with h|h<;>simp[Ft,h]<;>exact⟨rfl,rfl⟩
  have o0:t.op≠0:=fun h=>iM (.inl h);have o1:t.op≠1:=fun h=>iM (.inr h);by_cases o2:t.op=2
  ·have hv:0≤t.n:=by
    cases hn with
    |var h0 ha hn=>exact hn.1
    |_=>omega
   have e1:bN (L+1) cs t=ln cs t.n:=by rw[Hs,if_neg iM,if_pos o2]
   have e2:dU (L+1) cs t=if(ln cs t.n).known=true then[] else[t.n]:=by rw[IZ,if_neg iM,if_pos o2]
   rw[e1,e2];simp[Ft,o2];refine⟨_,aBM cs t.n hv,?_⟩;cases e:(ln cs t.n).known
   ·have:ln cs t.n=dK:=by
     unfold ln at e ⊢;split
     ·rfl
     ·rename_i h;rw[if_neg h] at e;split at e
      ·cases hb:decide ((cellAt cs t.n).n≠0)<;>rw[hb] at e<;>cases e
      ·cases e
    rw[this];simp[ints]
   ·have h:ln cs t.n=⟨true,(ln cs t.n).n⟩:=by rw[←e]
    rw[h];simp[ints]
    try rfl
  have hlen:1≤t.args.length∧(t.op≠3→2≤t.args.length)∧(t.op=6→3≤t.args.length):=by
   cases hn with
   |int h0 ha hn=>omega
   |bool h0 ha hn=>omega
   |var h0 ha hn=>omega
   |not h0 hk=>obtain⟨a,hl,_⟩:=ayd hk;rw[hl];simp;omega
   |log h0 hk=>obtain⟨a,b,hl,_⟩:=yN hk;rw[hl];simp;omega
   |ite k h0 hk=>obtain⟨a,b,c,hl,_⟩:=Rj hk;rw[hl];simp
   |less h0 hk=>obtain⟨a,b,hl,_⟩:=yN hk;rw[hl];simp;omega
   |equal k h0 hk=>obtain⟨a,b,hl,_⟩:=yN hk;rw[hl];simp;omega
   |num h0 hk=>obtain⟨a,b,hl,_⟩:=yN hk;rw[hl];simp;omega
  have hb9:9≤t.op→(-1099511627776≤(br (t.args.map (bN L cs)) 0).n∧(br (t.args.map (bN L cs)) 0).n≤1099511627776)∧(-1099511627776≤(br (t.args.map (bN L cs)) 1).n∧(br (t.args.map (bN L cs)) 1).n≤1099511627776):=by
   intro h9;have rb:∀c:Cell,uQ 0 c→-1099511627776≤c.n∧c.n≤1099511627776:=by
    intro c hr;cases e:c.known with
    |false=>rw[hr.1 e];simp
    |true=>exact(hr.2 e).2 rfl
   cases hn with
   |num h0 hk=>
    obtain⟨a,b,hl,ea,eb⟩:=yN hk;rw[hl] at Dj ⊢;have r1:=Dj a (by simp);have r2:=Dj b (by simp);rw[ea] at r1;rw[eb] at r2;exact⟨rb _ r1,rb _ r2⟩
   |log h0 hk=>omega
   |_=>omega
  have h6:t.op=6→(br (t.args.map (bN L cs)) 0).known=true→(br (t.args.map (bN L cs)) 0).n=0∨(br (t.args.map (bN L cs)) 0).n=1:=by
   intro o6 CY;cases hn with
   |ite k h0 hk=>
    obtain⟨a,b,c,hl,ea,_⟩:=Rj hk;rw[hl] at Dj CY ⊢;have r1:=Dj a (by simp);rw[ea] at r1;exact(r1.2 CY).1 rfl
   |log h0 hk=>omega
   |num h0 hk=>omega
   |_=>omega
  have bP:t.op<3∨8<t.op→9≤t.op:=by
   cases hn with
   |log h0 hk=>omega
   |num h0 hk=>omega
   |_=>omega
  have e1:bN (L+1) cs t=if t.op=6∧(br (t.args.map (bN L cs)) 0).known=true then br (t.args.map (bN L cs)) (2-(br (t.args.map (bN L cs)) 0).n).toNat else gI t.op (t.args.map (bN L cs)):=by
   rw[Hs,if_neg iM,if_neg o2]
  have e2:dU (L+1) cs t=if t.op=6∧(br (t.args.map (bN L cs)) 0).known=true then(t.args.map (dU L cs)).getD (2-(br (t.args.map (bN L cs)) 0).n).toNat [] else if(gI t.op (t.args.map (bN L cs))).known=true then[] else(t.args.map (dU L cs)).flatten:=by
   rw[IZ,if_neg iM,if_neg o2]
  rw[e1,e2];simp[Ft,o0,o1,o2];refine⟨by omega,?_⟩;refine aY.forRounds t.args.length (fun k=>[.int k]) (fun k=>[cells ((t.args.map (bN L cs)).take k++List.replicate (t.args.length-k) dK),lists ((t.args.map (dU L cs)).take k++List.replicate (t.args.length-k) [])]) ?_ (fun k hk=>?_) ?_
  ·simp[cells,lists,ints]
  ·have hw:=bE hk (by omega);have cV:=di hk;have hr:=ij _ cV;have s1:=Uw (t.args.map (bN L cs)) dK (n:=t.args.length) (by simp) hk;have s2:=Uw (t.args.map (dU L cs)) [] (n:=t.args.length) (by simp) hk;rw[←s1,←s2];have l1:((t.args.map (bN L cs)).take k++List.replicate (t.args.length-k) dK).length=t.args.length:=by simp;omega
   have l2:((t.args.map (dU L cs)).take k++List.replicate (t.args.length-k) []).length=t.args.length:=by simp;omega
   have g1:(t.args.map (bN L cs))[k]'(by simpa using hk)=bN L cs t.args[k]:=by simp
   have g2:(t.args.map (dU L cs))[k]'(by simpa using hk)=dU L cs t.args[k]:=by simp
   rw[g1,g2];generalize (t.args.map (bN L cs)).take k++List.replicate (t.args.length-k) dK=A at*;generalize (t.args.map (dU L cs)).take k++List.replicate (t.args.length-k) []=B at*;generalize bN L cs t.args[k]=c at*;generalize dU L cs t.args[k]=d at*;simp[Uh,E2,hk];refine⟨_,hr,?_⟩;simp[hw,hk,l1,l2,cells,lists]
  ·have hA:(t.args.map (bN L cs)).take t.args.length++List.replicate (t.args.length-t.args.length) dK=t.args.map (bN L cs):=by rw[Nb,List.replicate_zero,mc,As (by simp)]
   have hB:(t.args.map (dU L cs)).take t.args.length++List.replicate (t.args.length-t.args.length) []=t.args.map (dU L cs):=by rw[Nb,List.replicate_zero,mc,As (by simp)]
   have lA:(t.args.map (bN L cs)).length=t.args.length:=by simp
   have lB:(t.args.map (dU L cs)).length=t.args.length:=by simp
   have kl:∀l:List Tm,(∀a,a∈l→a∈t.args)→((l.map (dU L cs)).flatten.length≤l.length*60):=by
    intro l
    induction l with
    |nil=>intro _;simp
    |cons a l ih=>
     intro h;have h1:=hnl a (h a (by simp));have h2:=ih (fun b hb=>h b (by simp[hb]));rw[gE,Xu,j4,pS];omega
   have kl:=kl t.args (fun a h=>h);have hBg:∀m:Nat,(Option.map (dU L cs) t.args[m]?).getD []=(t.args.map (dU L cs)).getD m []:=fun m=>by simp[aS]
   rw[hA,hB];generalize t.args.map (bN L cs)=A at*;generalize t.args.map (dU L cs)=B at*;have g0:0<A.length:=by omega
   have vd:A[0]=br A 0:=by simp[br,g0]
   by_cases HI:t.op=6∧(br A 0).known=true
   ·obtain⟨o6,kn⟩:=HI;have hv:=h6 o6 kn;have hw:IntKind.i64.wrap (2-(br A 0).n)=2-(br A 0).n:=bF (by omega);have h3:3≤t.args.length:=hlen.2.2 o6;rw[if_pos ⟨o6,kn⟩,if_pos ⟨o6,kn⟩];obtain⟨m,eW⟩:∃m:Nat,m=(2-(br A 0).n).toNat:=⟨_,rfl⟩
    have C3:m<A.length:=by omega
    have Pw:m<B.length:=by omega
    simp[Uh,E2,o6,kn,g0,vd,hw,←eW,C3,Pw,cells,lists];refine⟨by omega,by omega,by simp[br,C3],?_⟩;rw[hBg,aS,bK Pw];rfl
   ·rw[if_neg HI,if_neg HI];have atp:=aBI t.op A (by omega) (by omega) (by omega) hb9 bP;have atr:=aiE B (by omega) (by omega);simp[Uh,E2,g0,vd];rw[if_neg HI];refine⟨_,atp,?_⟩;cases e:(gI t.op A).known
    ·have dX:gI t.op A=dK:=aol e;rw[dX];simp;exact atr
    ·have h:gI t.op A=⟨true,(gI t.op A).n⟩:=by rw[←e]
     rw[h];simp[ints]
     try rfl
end Rm
namespace Rm
open Go Go.Proofs Cx
def mK (n:Nat)(g:Nat→Bool):Int:=if(List.range n).findIdx g<n then((List.range n).findIdx g:Nat) else-1
theorem Dy (n:Nat)(g:Nat→Bool):(mK n g=-1∧∀k,k<n→g k=false)∨∃k:Nat,k<n∧mK n g=k∧g k=true∧∀i,i<k→g i=false:=by
 unfold mK;split
 ·rename_i h;refine .inr ⟨_,h,rfl,?_,fun i hi=>?_⟩
  ·have:=List.findIdx_getElem (p:=g) (xs:=List.range n) (w:=by simpa using h);simpa using this
  ·have:=List.not_of_lt_findIdx (p:=g) (xs:=List.range n) hi;simpa using this
 ·rename_i h;refine .inl ⟨rfl,fun k hk=>?_⟩;have:=List.not_of_lt_findIdx (p:=g) (xs:=List.range n) (i:=k) (by omega);simpa using this
theorem QB {n:Nat}{g:Nat→Bool}(h:∀k,k<n→g k=false):mK n g=-1:=by
 rcases Dy n g with⟨h1,_⟩|⟨k,hk,_,h2,_⟩
 ·exact h1
 ·rw[h k hk] at h2;cases h2
theorem QC {n k:Nat}{g:Nat→Bool}(hk:k<n)(h:g k=true)(hj:∀i,i<k→g i=false):mK n g=k:=by
 rcases Dy n g with⟨_,h1⟩|⟨m,hm,h1,h2,h3⟩
 ·rw[h1 k hk] at h;cases h
 ·rcases Nat.lt_trichotomy m k with h4|h4|h4
  ·rw[hj m h4] at h2;cases h2
  ·rw[h1,h4]
  ·rw[h3 k h4] at h;cases h
theorem abJ (n:Nat)(g:Nat→Bool):decide (0≤mK n g)=(List.range n).any g:=by
 rcases Dy n g with⟨h1,h2⟩|⟨m,hm,h1,h2,h3⟩
 ·rw[h1]
  symm
  simp;exact h2
 ·rw[h1];simp;exact⟨m,hm,h2⟩
theorem aiM (l:List Rule)(f:Nat)(caps:List D)(g:Nat→Bool)(hg:∀k (hk:k<l.length),ak T f (rz l[k]::caps) (.bool (g k)))(hl:l.length≤4294967296):
 ak T RC [rules l,.clo f caps] (.int (mK l.length g)):=by
 refine .of_tree rfl X6 aDv ?_;simp[Wh];refine .scan l.length (fun k=>g k=false) (fun k=>[.int 0,.int k]) (fun _=>[]) ?_ (fun k hk hj ho=>?_) (fun k hk hj ho=>?_) (fun hj=>?_)
 ·simp
 ·have hw:=bE hk hl;simp[Ub,EX,hk,hw];refine⟨_,_,⟨rfl,rfl⟩,_,hg k hk,?_⟩;simp[ho,hw]
 ·have he:=QC hk (by simpa using ho) hj;simp[Ub,EX,hk,he];refine⟨_,_,⟨rfl,rfl⟩,_,hg k hk,?_⟩;simp[ho]
 ·have he:=QB hj;simp[Ub,EX,he]
theorem aiN (l:List Int)(f:Nat)(caps:List D)(g:Nat→Bool)(hg:∀k (hk:k<l.length),ak T f (.int l[k]::caps) (.bool (g k)))(hl:l.length≤4294967296):
 ak T adX [ints l,.clo f caps] (.int (mK l.length g)):=by
 refine .of_tree rfl ak3 aDw ?_;simp[Wi];refine .scan l.length (fun k=>g k=false) (fun k=>[.int 0,.int k]) (fun _=>[]) ?_ (fun k hk hj ho=>?_) (fun k hk hj ho=>?_) (fun hj=>?_)
 ·simp
 ·have hw:=bE hk hl;simp[Uc,EY,hk,hw,ints];refine⟨_,_,⟨rfl,rfl⟩,_,hg k hk,?_⟩;simp[ho,hw]
 ·have he:=QC hk (by simpa using ho) hj;simp[Uc,EY,hk,he,ints];refine⟨_,_,⟨rfl,rfl⟩,_,hg k hk,?_⟩;simp[ho]
 ·have he:=QB hj;simp[Uc,EY,he,ints]
theorem aiL (l:List Alter)(f:Nat)(caps:List D)(g:Nat→Bool)(hg:∀k (hk:k<l.length),ak T f (oL l[k]::caps) (.bool (g k)))(hl:l.length≤4294967296):
 ak T adW [alters l,.clo f caps] (.int (mK l.length g)):=by
 refine .of_tree rfl ak2 aDu ?_;simp[Wg];refine .scan l.length (fun k=>g k=false) (fun k=>[.int 0,.int k]) (fun _=>[]) ?_ (fun k hk hj ho=>?_) (fun k hk hj ho=>?_) (fun hj=>?_)
 ·simp
 ·have hw:=bE hk hl;simp[Ua,EW,hk,hw];refine⟨_,_,⟨rfl,rfl⟩,_,hg k hk,?_⟩;simp[ho,hw]
 ·have he:=QC hk (by simpa using ho) hj;simp[Ua,EW,hk,he];refine⟨_,_,⟨rfl,rfl⟩,_,hg k hk,?_⟩;simp[ho]
 ·have he:=QB hj;simp[Ua,EW,he]
theorem aiG (l:List Int)(f:Nat)(caps:List D)(g:Nat→Bool)(hg:∀k (hk:k<l.length),ak T f (.int l[k]::caps) (.bool (g k)))(hl:l.length≤4294967296):
 ak T adU [ints l,.clo f caps] (.bool ((List.range l.length).any g)):=by
 refine .of_tree rfl ak0 aDr ?_;simp[Wd];refine⟨_,aiN l f caps g hg hl,?_⟩;have:=abJ l.length g;simp[←this]
theorem aiF (l:List Alter)(f:Nat)(caps:List D)(g:Nat→Bool)(hg:∀k (hk:k<l.length),ak T f (oL l[k]::caps) (.bool (g k)))(hl:l.length≤4294967296):
 ak T adT [alters l,.clo f caps] (.bool ((List.range l.length).any g)):=by
 refine .of_tree rfl akZ aDq ?_;simp[Wc];refine⟨_,aiL l f caps g hg hl,?_⟩;have:=abJ l.length g;simp[←this]
def xN (cs:List Cell)(t:Tm):Cell:=if(np t).2=0 then bN 8 cs t else dK
theorem an9 {t:Tm}(h:(np t).2=0):cM 8 t≤60∧cv 8 t=((np t).1,0):=by
 unfold np at h ⊢;split at h
 ·cases h
 ·rename_i hm;rw[if_neg hm];exact⟨by omega,by rw[←h]⟩
theorem aBG (t:Tm)(cs:List Cell)(ht:t.OK):ak T ad6 [dF t,cells cs] (cR (xN cs t)):=by
 refine .of_tree rfl ale aDJ ?_;simp[Wt,xN];refine⟨_,ahE t ht,?_⟩;by_cases h:(np t).2=0
 ·obtain⟨h1,h2⟩:=an9 h;simp[h];refine⟨_,ahG 8 cs t _ ht h1 h2,?_⟩;simp
  try rfl
 ·simp[h]
  try rfl
def RR:List Int:=[6,7,10,12,13,14,15,16,20,21]
def pJ (ask:Int):Int×Bool:=if ask<0∨22≤ask then(0,false) else if hasB RR ask then(0,true) else(1,true)
theorem Sv (ask:Int):ak T Rs [.int ask] (.tup [.int (pJ ask).1,.bool (pJ ask).2]):=by
 refine .of_tree rfl XZ aCu ?_;simp[Vj,pJ];by_cases h0:ask<0
 ·simp[h0]
 by_cases h1:22≤ask
 ·simp[h0,h1]
 simp[h0,h1];refine⟨_,uH RR ask (by decide),?_⟩;cases h:hasB RR ask<;>simp[h]
def I0:Tm:=⟨0,0,[]⟩
def uk (o:Order)(ask:Int)(k:Nat):Bool:=decide ((o.rules.getD k default).ask=ask)
def Fb (o:Order)(i:Int):Tm:=(o.rules.getD i.toNat default).term
def findF (o:Order)(ask:Int):Tm×Int:=
 if(pJ ask).2=false then(I0,1) else if mK o.rules.length (uk o ask)<0 then(I0,4) else
    if(np (Fb o (mK o.rules.length (uk o ask)))).2≠0∨(np (Fb o (mK o.rules.length (uk o ask)))).1≠(pJ ask).1 then(I0,11) else(Fb o (mK o.rules.length (uk o ask)),0)
theorem ahi {o:Order}(ho:o.OK){m:Nat}(hm:m<o.rules.length):o.rules[m].term.OK:=(ho.2.2 _ (di hm)).2
theorem RQ:I0.OK:=by
 exact .mk 0 0 [] (by unfold bj;omega) (by unfold bj;omega) (by decide) (fun _ h=>by cases h)
theorem apP {o:Order}(ho:o.OK)(ask:Int):(findF o ask).1.OK:=by
 unfold findF;split
 ·exact RQ
 split
 ·exact RQ
 split
 ·exact RQ
 ·rename_i h _;rcases Dy o.rules.length (uk o ask) with⟨h1,h2⟩|⟨m,hm,h1,h2,h3⟩
  ·exact absurd (by rw[h1];decide) h
  ·rw[h1];simp[Fb,hm];exact ahi ho hm
theorem apM (r:Rule)(ask:Int):ak T IU [rz r,.ref (.int ask)] (.bool (decide (r.ask=ask))):=by
 refine .of_tree rfl X1 aCv ?_;simp[Vl]
theorem azD (o:Order)(ask:Int)(ho:o.OK)(hl:o.rules.length≤4294967296):ak T Rt [iJ o,.int ask] (.tup [dF (findF o ask).1,.int (findF o ask).2]):=by
 refine .of_tree rfl X0 aCw ?_;simp[Vk,findF];refine⟨_,Sv ask,?_⟩;cases h0:(pJ ask).2
 ·simp[h0]
  try rfl
 simp[h0];refine⟨_,aiM o.rules IU [.ref (.int ask)] (uk o ask) (fun k hk=>by simpa [uk,hk] using apM o.rules[k] ask) hl,?_⟩;rcases Dy o.rules.length (uk o ask) with⟨h1,h2⟩|⟨m,hm,h1,h2,h3⟩
 ·rw[h1];simp
  try rfl
 ·rw[h1];have rL:¬((m:Int)<0):=by omega
  have htm:o.rules[m].term.OK:=ahi ho hm;simp[hm,Fb,rL];refine⟨_,ahE _ htm,?_⟩;by_cases h4:(np o.rules[m].term).2=0<;>by_cases h5:(np o.rules[m].term).1=(pJ ask).1<;>simp[h4,h5]<;>try rfl
def xq (o:Order)(ask:Int)(cs:List Cell):Cell×Int:=
 if(findF o ask).2≠0 then(dK,(findF o ask).2) else
    (if(pJ ask).1=0∧(xN cs (findF o ask).1).known=true then⟨true,min (max (xN cs (findF o ask).1).n 0) 20000⟩ else xN cs (findF o ask).1,0)
theorem azB (o:Order)(ask:Int)(cs:List Cell)(ho:o.OK)(hl:o.rules.length≤4294967296):ak T ac5 [iJ o,.int ask,cells cs] (.tup [cR (xq o ask cs).1,.int (xq o ask cs).2]):=by
 refine .of_tree rfl aj5 aCs ?_;simp[Vi];refine⟨_,azD o ask ho hl,?_⟩;have hf:(findF o ask).1.OK:=apP ho ask;by_cases h:(findF o ask).2=0
 ·simp[h,xq];refine⟨_,aBG _ cs hf,_,Sv ask,?_⟩;generalize xN cs (findF o ask).1=c;obtain⟨kn,n⟩:=c;by_cases h1:(pJ ask).1=0
  ·cases kn
   ·simp[h1,cR]
   ·by_cases h2:n<0
    ·have:min (max n 0) 20000=0:=by omega
     simp[h1,cR,h2,this];rfl
    ·by_cases h3:20000<n
     ·have:min (max n 0) 20000=20000:=by omega
      simp[h1,cR,h2,h3,this];rfl
     ·have:min (max n 0) 20000=n:=by omega
      simp[h1,cR,h2,h3,this];rfl
  ·simp[h1,cR]
 ·simp[h,xq]
  try rfl
end Rm
namespace Rm
open Go Go.Proofs Cx
theorem ag4 (b:Bool):ak T adQ [.bool b] (cR (gz b)):=by
 refine .of_tree rfl akW aDm ?_;cases b<;>simp[V9,gz]<;>rfl
def rB (kind sign:Int)(x:Fact):Bool:=decide (x.kind=kind)&&decide (x.at_=sign)
def gm (f:File)(kind sign:Int):Cell:=match f.facts.find? (rB kind sign) with|none=>dK|some x=>gz (decide (x.n≠0))
theorem xP {α:Type}{p:α→Bool}:∀{l:List α} {k:Nat} (hk:k<l.length),p l[k]=true→(∀j (hj:j<k),p (l[j]'(by omega))=false)→l.find? p=some l[k]
 |a::l,0,hk,h,hj=>by simp at h;simp[h]
 |a::l,k+1,hk,h,hj=>by
  have h0:=hj 0 (by omega);simp at h0;simp only[List.find?_cons,h0,List.getElem_cons_succ];exact xP (by simpa using hk) (by simpa using h) (fun j bS=>by simpa using hj (j+1) (by omega))
theorem Ck {α:Type}{p:α→Bool}{l:List α}(h:∀j (hj:j<l.length),p l[j]=false):l.find? p=none:=by
 rw[uK];intro x hx;obtain⟨j,hj,rfl⟩:=jB hx;rw[h j hj];decide
theorem E6 (f:File)(kind sign:Int)(hl:f.facts.length≤4294967296):ak T adM [cZ f,.int kind,.int sign] (cR (gm f kind sign)):=by
 refine .of_tree rfl akS aDi ?_;simp[V6];refine .scan f.facts.length (fun k=>rB kind sign (f.facts.getD k default)=false) (fun k=>[.int k]) (fun _=>[cR dK]) ?_ (fun k hk hj ho=>?_) (fun k hk hj ho=>?_) (fun hj=>?_)
 ·simp
 ·have hw:=bE hk hl;simp[hk,rB] at ho;by_cases h1:f.facts[k].kind=kind<;>by_cases h2:f.facts[k].at_=sign
  ·exact absurd h2 (ho h1)
  all_goals simp[T6,ET,hk,hw,h1,h2]
 ·have hw:=bE hk hl;have hf:gm f kind sign=gz (decide (f.facts[k].n≠0)):=by
   unfold gm;rw[xP hk (by simpa [hk] using ho) (fun j bS=>by have:=hj j bS;simpa [show j<f.facts.length by omega] using this)]
  simp[hk,rB] at ho;simp[T6,ET,hk,hw,ho,hf];refine⟨_,ag4 _,?_⟩;simp
  try rfl
 ·have hf:gm f kind sign=dK:=by
   unfold gm;rw[Ck (fun j bS=>by have:=hj j bS;simpa [bS] using this)]
  simp[T6,ET,hf]
  try rfl
def fB (r:Realm)(c:Int):Int:=if aA c r.cities.length=true then(r.cities.getD c.toNat default).order else-1
theorem pB (r:Realm)(c:Int):ak T adA [bl r,.int c] (.int (fB r c)):=by
 refine .of_tree rfl akG aC6 ?_;simp[VU,fB];refine⟨_,fE c r.cities.length,?_⟩;cases h:aA c r.cities.length
 ·simp[h]
 ·simp[aA] at h;have h1:c.toNat<r.cities.length:=by omega
  simp[h,h1]
def jb (day:Int)(l:List Sign):List Sign:=l.takeWhile fun s=>decide (s.day≤day)
def Fv (day:Int)(l:List Act):List Act:=l.takeWhile fun s=>decide (s.day≤day)
def nl (n:Nat)(a:Alter):Bool:=decide (a.at_≤(n:Int))
def ka (n:Nat)(x:Fact):Bool:=aA x.at_ n
def aX (f:File)(day:Int):File:=
 ⟨f.bill,jb day f.signs,f.alters.filter (nl (jb day f.signs).length),Fv day f.acts,f.facts.filter (ka (jb day f.signs).length)⟩
theorem MR {α:Type}(p:α→Bool):∀(l:List α),∃m,m≤l.length∧l.takeWhile p=l.take m∧(∀k (hk:k<l.length),k<m→p l[k]=true)∧(∀hk:m<l.length,p l[m]=false)
 |[]=>⟨0,by simp,by simp,fun k hk=>by simp at hk,fun hk=>by simp at hk⟩
 |a::l=>by
  by_cases h:p a=true
  ·obtain⟨m,h1,h2,h3,h4⟩:=MR p l;refine⟨m+1,by simp;omega,by simp[h,h2],fun k hk hm=>?_,fun hk=>?_⟩
   ·cases k with
    |zero=>simpa using h
    |succ k=>simpa using h3 k (by simpa using hk) (by omega)
   ·simpa using h4 (by simpa using hk)
  ·refine⟨0,by simp,by simp[h],fun k hk hm=>by omega,fun hk=>by simpa using h⟩
theorem MF {α:Type}(p:α→Bool)(l:List α){k:Nat}(hk:k<l.length):(l.take (k+1)).filter p=(l.take k).filter p++if p l[k] then[l[k]] else[]:=by
 rw[m9 hk,Ap]
 congr 1
 cases h:p l[k]<;>simp[h]
def Ay (b:Bill)(w x y z:D):D:=.agg [.int b.drawer,.int b.drawee,.int b.payee,.int b.sum,.int b.currency,.int b.tenor.kind,.int b.tenor.n,.int b.tenor.unit,.int b.day,.int b.city,.int b.pay,.int b.need,.int b.rate,.int b.flags,.int b.parts,w,x,y,z]
def nE {α:Type}(l:List α):D:=match l with|[]=>.list []|_=>.none
@[simp] theorem aI9 {α:Type}:nE ([]:List α)=.list []:=rfl
@[simp] theorem aI8 {α:Type}(l:List α)(x:α):nE (l++[x])=.none:=by cases l<;>rfl
theorem ag3 (f:File)(day:Int)(h1:f.signs.length≤4294967295)(h2:f.acts.length≤4294967295)(h3:f.alters.length≤4294967295)(h4:f.facts.length≤4294967295):ak T adL [cZ f,.int day] (cZ (aX f day)):=by
 refine .of_tree rfl akR aDh ?_;simp[V5];obtain⟨m,hm,hS,hS1,x9⟩:=MR (fun s:Sign=>decide (s.day≤day)) f.signs;obtain⟨n,hn,hA,hA1,hA2⟩:=MR (fun s:Act=>decide (s.day≤day)) f.acts;refine aY.forRounds m (fun k=>[.int k]) (fun k=>[signs (f.signs.take k),Ay f.bill (nE (f.signs.take k)) (.list []) (.list []) (.list [])]) ?_ (fun k hk=>?_) ?_
 ·simp[Ay,signs]
  try rfl
 ·have bt:k<f.signs.length:=by omega
  have hw:=bE bt (by omega);have hd:=hS1 k bt hk;simp at hd;have eU:¬day<f.signs[k].day:=by omega
  have hle:(k:Int)+1≤4294967296:=by omega
  have ht:=m9 bt;rw[ht];have hlen:(f.signs.take k).length=k:=by simp;omega
  generalize f.signs.take k=A at*;simp[T2,EO,bt,hw,eU,hlen];exact⟨hle,by simp[signs],rfl⟩
 have hSl:(f.signs.take m).length≤4294967295:=by rw[ei];omega
 have hAt:aX f day=⟨f.bill,f.signs.take m,f.alters.filter (nl (f.signs.take m).length),f.acts.take n,f.facts.filter (ka (f.signs.take m).length)⟩:=by
  unfold aX jb Fv;rw[hS,hA]
 rw[hAt];generalize f.signs.take m=S at*;have hAl:(f.acts.take n).length≤4294967295:=by rw[ei];omega
 by_cases eW:m<f.signs.length
 case' pos=>
  have hd:=x9 eW;simp at hd;simp[T2,EO,eW,hd];generalize D.bool true=bb
 case' neg=>
  have tq:m=f.signs.length:=by omega
  simp[T2,EO,eW,tq];generalize D.bool false=bb
 all_goals
  refine aY.forRounds n (fun k=>[.int k]) (fun k=>[acts (f.acts.take k),Ay f.bill (nE S) (.list []) (nE (f.acts.take k)) (.list [])]) ?_ (fun k hk=>?_) ?_
  ·simp[acts]
  ·have bt:k<f.acts.length:=by omega
   have hw:=bE bt (by omega);have hd:=hA1 k bt hk;simp at hd;have eU:¬day<f.acts[k].day:=by omega
   have hle:(k:Int)+1≤4294967296:=by omega
   have ht:=m9 bt;rw[ht];have hlen:(f.acts.take k).length=k:=by simp;omega
   generalize f.acts.take k=A at*;simp[T3,EP,bt,hw,eU,hlen];exact⟨hle,by simp[acts],rfl⟩
  generalize f.acts.take n=A at*;by_cases iP:n<f.acts.length
  case' pos=>
   have hd:=hA2 iP;simp at hd;simp[T3,EP,iP,hd];generalize D.bool true=bc
  case' neg=>
   have oU:n=f.acts.length:=by omega
   simp[T3,EP,iP,oU];generalize D.bool false=bc
  all_goals
   refine aY.forRounds f.alters.length (fun k=>[.int k]) (fun k=>[Ay f.bill (nE S) (nE ((f.alters.take k).filter (nl S.length))) (nE A) (.list []),alters ((f.alters.take k).filter (nl S.length))]) ?_ (fun k hk=>?_) ?_
   ·simp[alters]
   ·have hw:=bE hk (by omega);have ht:=MF (nl S.length) f.alters hk;rw[ht];have hlen:((f.alters.take k).filter (nl S.length)).length≤k:=j5 (uN _ _) (by simp;omega);generalize (f.alters.take k).filter (nl S.length)=B at*;by_cases hd:f.alters[k].at_≤(S.length:Int)
    ·simp[T4,ER,nl,hk,hw,hd];exact⟨by omega,rfl,by simp[alters]⟩
    ·simp[T4,ER,nl,hk,hw,hd]
   simp[T4,ER];generalize f.alters.filter (nl S.length)=B at*;refine aY.forRounds f.facts.length (fun k=>[.int k]) (fun k=>[Ay f.bill (nE S) (nE B) (nE A) (nE ((f.facts.take k).filter (ka S.length))),facts ((f.facts.take k).filter (ka S.length))]) ?_ (fun k hk=>?_) ?_
   ·simp[facts]
   ·have hw:=bE hk (by omega);have ht:=MF (ka S.length) f.facts hk;rw[ht];have hlen:((f.facts.take k).filter (ka S.length)).length≤k:=j5 (uN _ _) (by simp;omega);generalize (f.facts.take k).filter (ka S.length)=C at*;cases hd:aA f.facts[k].at_ S.length
    ·simp[T5,ES,ka,hk,hw,hd];refine⟨_,pC _ _,?_⟩;simp[hd,hw]
    ·simp[T5,ES,ka,hk,hw,hd];refine⟨_,pC _ _,?_⟩;simp[hd,hw];exact⟨by omega,rfl,by simp[facts]⟩
   simp[T5,ES];rfl
end Rm
namespace Rm
open Go Go.Proofs Cx
def eG:List Int→Int
 |[]=>-1
 |x::l=>l.foldl min x
theorem aiW (x:Int)(l:List Int)(hl:l.length<4294967296):ak T adZ [ints (x::l)] (.int (eG (x::l))):=by
 refine .of_tree rfl ak5 aDz ?_;have h0:¬((l.length:Int)+1<1):=by omega
 simp[Wl,h0,eG,ints];refine aY.forRounds l.length (fun k=>[.int ((l.take k).foldl min x),.int ((k:Int)+1)]) (fun k=>[]) ?_ (fun k hk=>?_) ?_
 ·simp
 ·have hw:IntKind.i64.wrap ((k:Int)+1+1)=(k:Int)+1+1:=bF (by omega);rw[m9 hk,M2];generalize (l.take k).foldl min x=y;have ht:((k:Int)+1).toNat=k+1:=by omega
  have ah:(k:Int)+1<(l.length:Int)+1:=by omega
  simp[agX,Mg,hk,hw,ht,ah];refine⟨by omega,?_⟩;by_cases h:l[k]<y
  ·simp[h];omega
  ·simp[h];omega
 ·simp[agX,Mg]
def gu (f:File)(n:Nat):List Int:=if f.bill.tenor.kind=1 then((f.signs.take n).filter (fun s=>decide (s.kind=1))).map (·.day) else[]
def fQ (f:File)(n:Nat):List Int:=if f.bill.tenor.kind=1 then((f.acts.take n).filter (fun s=>decide (s.kind=1))).map (·.day) else[]
def kM (f:File)(a:Act):Bool:=decide (f.bill.tenor.kind=0)&&decide (a.kind=2)
def gi (f:File):Int:=match f.acts.find? (kM f) with|some a=>a.day|none=>eG (gu f f.signs.length++fQ f f.acts.length)
theorem aAQ (f:File)(h1:f.signs.length≤100000)(h2:f.acts.length≤100000):ak T adN [cZ f] (.int (gi f)):=by
 refine .of_tree rfl akT aDj ?_;simp[V7];refine aY.forRounds f.signs.length (fun k=>[.none,.int k]) (fun k=>[ints (gu f k)]) ?_ (fun k hk=>?_) ?_
 ·simp[gu,ints]
 ·have hw:=bE hk (by omega);have hs:gu f (k+1)=gu f k++if f.bill.tenor.kind=1∧f.signs[k].kind=1 then[f.signs[k].day] else[]:=by
   unfold gu;by_cases h:f.bill.tenor.kind=1
   ·simp only[if_pos h,MF _ _ hk,me,h,true_and]
    congr 1
    by_cases h':f.signs[k].kind=1<;>simp[h']
   ·simp[h]
  have hlen:(gu f k).length≤k:=by
   unfold gu;split
   ·rw[ix];exact j5 (uN _ _) (by simp;omega)
   ·simp
  rw[hs];generalize gu f k=A at*;by_cases hc:f.bill.tenor.kind=1∧f.signs[k].kind=1
  ·simp[T7,EU,hk,hw,hc];exact⟨by omega,by simp[ints]⟩
  ·simp[T7,EU,hk,hw,hc]
 ·have hlS:(gu f f.signs.length).length≤100000:=by
   unfold gu;split
   ·rw[ix];exact j5 (uN _ _) (by simp;omega)
   ·simp
  have hE:gi f=match f.acts.find? (kM f) with|some a=>a.day|none=>eG (gu f f.signs.length++fQ f f.acts.length):=rfl
  generalize gu f f.signs.length=A at*;simp[T7,EU];refine aY.scan f.acts.length (fun k=>kM f (f.acts.getD k default)=false) (fun k=>[.int 0,.none,.int k]) (fun k=>[ints (A++fQ f k)]) ?_ (fun k hk hj ho=>?_) (fun k hk hj ho=>?_) (fun hj=>?_)
  ·simp[fQ,ints]
  ·have hw:=bE hk (by omega);have hs:fQ f (k+1)=fQ f k++if f.bill.tenor.kind=1∧f.acts[k].kind=1 then[f.acts[k].day] else[]:=by
        unfold fQ;by_cases h:f.bill.tenor.kind=1
        ·simp only[if_pos h,MF _ _ hk,me,h,true_and]
         congr 1
         by_cases h':f.acts[k].kind=1<;>simp[h']
        ·simp[h]
   have hlen:(fQ f k).length≤k:=by
        unfold fQ;split
        ·rw[ix];exact j5 (uN _ _) (by simp;omega)
        ·simp
   rw[hs];generalize fQ f k=B at*;simp[kM,hk] at ho;by_cases hc:f.bill.tenor.kind=1∧f.acts[k].kind=1
   ·simp[EV,wL,hk,hw,hc];exact⟨by omega,by simp[ints]⟩
   ·have hn:¬(f.bill.tenor.kind=0∧f.acts[k].kind=2):=fun h=>ho h.1 h.2;simp[EV,wL,hk,hw,hc,hn]
  ·have hf:gi f=f.acts[k].day:=by
        rw[hE,xP hk (by simpa [hk] using ho) (fun j bS=>by have:=hj j bS;simpa [show j<f.acts.length by omega] using this)]
   simp[kM,hk] at ho;simp[EV,wL,hk,ho,hf]
  ·have hf:gi f=eG (A++fQ f f.acts.length):=by
        rw[hE,Ck (fun j bS=>by have:=hj j bS;simpa [bS] using this)]
   have hlA:(fQ f f.acts.length).length≤100000:=by
        unfold fQ;split
        ·rw[ix];exact j5 (uN _ _) (by simp;omega)
        ·simp
   rw[hf];have hL:(A++fQ f f.acts.length).length≤200000:=by rw[j4];omega
   generalize A++fQ f f.acts.length=L at*;cases L with
   |nil=>simp[EV,wL,eG,ints]
   |cons x l=>
    have aB:¬((l.length:Int)+1=0):=by omega
    simp[EV,wL,aB];exact aiW x l (by simp at hL;omega)
end Rm
namespace Rm
open Go Go.Proofs Cx
def gH (g:Nat→Cell):D:=.list ((List.range 20).map fun i=>cR (g i))
theorem Yy {g g':Nat→Cell}(h:∀i,i<20→g i=g' i):gH g=gH g':=by
 unfold gH
 congr 1
 exact xh fun i hi=>by rw[h i (by simpa using hi)]
theorem Yz (g:Nat→Cell)(k:Nat)(c:Cell):D.list ((gH g).l.set k (cR c))=gH (fun i=>if i=k then c else g i):=by
 unfold gH
 congr 1
 show((List.range 20).map fun i=>cR (g i)).set k (cR c)=_;apply List.ext_getElem
 ·simp
 ·intro i h1 h2;simp at h2;rw[List.getElem_set];by_cases h:k=i
  ·simp[h]
  ·have h':¬i=k:=fun e=>h e.symm;simp[h,h']
@[simp] theorem aHh (g:Nat→Cell):(gH g).l.length=20:=by
  show((List.range 20).map fun i=>cR (g i)).length=20;simp
theorem F5 (g:Nat→Cell){k:Nat}(hk:k<20):(gH g).l[k]?.getD D.none=cR (g k):=by
 show((List.range 20).map fun i=>cR (g i))[k]?.getD D.none=cR (g k);simp[hk]
theorem al7 (g:Nat→Cell){k:Nat}(hk:k<(gH g).l.length):(gH g).l[k]=cR (g k):=by
 have h:=F5 g (k:=k) (by simpa using hk);rw[bK hk] at h;exact h
theorem al9 (g:Nat→Cell)(k:Nat)(c:Cell):(gH g).l.set k (cR c)=(gH (fun i=>if i=k then c else g i)).l:=congrArg D.l (Yz g k c)
theorem al8 (g:Nat→Cell):D.list (gH g).l=gH g:=rfl
@[simp] theorem aKP (x:Cell)(b:Bool)(n:Int):uu (cR x) 0 (D.agg [D.bool b,D.int n])=cR ⟨b,n⟩:=_root_.id rfl
def xO {α:Type}(l:List (Int×α))(val:α→Cell)(g0:Nat→Cell)(i:Nat):Cell:=match l.find? (fun p=>decide (p.1=(i:Int))) with|some p=>val p.2|none=>g0 i
def qB {α:Type}(enc:α→D)(p:Int×α):D:=.tup [.int p.1,enc p.2]
theorem aca {α:Type}{J o:Nat}{ps cF:List Nat}{a:PC}{ρ:Env}{Q:Out→Prop}(l:List (Int×α))(enc:α→D)(val:α→Cell)(g0:Nat→Cell)
 (nd:∀p q,p∈l→q∈l→p.1=q.1→p=q) (Up:∀p,p∈l→0≤p.1) (he:ρ.o J=.tup [.list [],.map (l.map fun p=>(.int p.1,enc p.2))]) (h0:ρ.o o=gH g0)
 (step:∀p,p∈l→∀g done,aO T (pE [o] a) ((ρ.put ps (cF.map (qB enc p).tget) [o] [gH g]).setO J (.tup [.list (done++[qB enc p]),.map (l.map fun p=>(.int p.1,enc p.2))])) (fun y=>∃ρ',y=.next ρ'∧ρ'.o o=.list ((gH g).l.set p.1.toNat (cR (val p.2)))))
 (last:Q (.next (ρ.put [] [] [o] [gH (xO l val g0)]))):aY T (.meach J ps cF [o] a) ρ Q:=by
 have mD:gS (.map (l.map fun p=>((D.int p.1,enc p.2):D×D)))=l.map (qB enc):=by
  simp[gS,qB]
 refine .meachR _ he (fun done vo=>∃g:Nat→Cell,vo=[gH g]∧(∀p,p∈l→qB enc p∈done→g p.1.toNat=val p.2)∧∀i:Nat,(∀p,p∈l→qB enc p∈done→p.1≠i)→g i=g0 i) ⟨g0,by simp[h0],(fun p _ h=>by cases h),fun i _=>rfl⟩ (fun done x rest vo hp ⟨g,hv,kS,fo⟩=>?_) ⟨_,fun done hp vo ⟨g,hv,kS,fo⟩=>?_,last⟩
 ·subst hv;rw[mD] at hp;have hx:x∈l.map (qB enc):=hp.subset (by simp);obtain⟨p,dZ,rfl⟩:=dx.mp hx;refine xl _ (fun y ⟨ρ',e,ho⟩=>⟨ρ',e,fun i=>if i=p.1.toNat then val p.2 else g i,by simp[ho,Yz],fun q hq P5=>?_,fun i hi=>?_⟩) (step p dZ g done)
  ·have P6:=Up q hq;have oW:=Up p dZ;by_cases h:q.1=p.1
   ·rw[nd q p hq dZ h];simp
   ·show(if q.1.toNat=p.1.toNat then val p.2 else g q.1.toNat)=val q.2;rw[if_neg (by omega)];rcases cY.mp P5 with h1|h1
    ·exact kS q hq h1
    ·simp[qB] at h1;exact absurd h1.1 h
  ·have oW:=Up p dZ;have df:=hi p dZ (by simp);show(if i=p.1.toNat then val p.2 else g i)=g0 i;rw[if_neg (by omega)];exact fo i fun q hq P5=>hi q hq (by simp[P5])
 ·rw[hv,mD] at*
  congr 1
  refine Yy fun i hi=>?_;unfold xO;cases hf:l.find? (fun p=>decide (p.1=(i:Int))) with
  |some p=>
   have dZ:=pU hf;have Io:p.1=(i:Int):=by simpa using FI hf
   have:=kS p dZ (hp.symm.subset (List.mem_map_of_mem dZ));simp only;rw[←this,Io];rfl
  |none=>
   refine fo i fun p dZ _=>?_;have:=uK.mp hf p dZ;simpa using this
@[simp] theorem aJx (a b:Int):ec (D.int a) (D.int b)=decide (a=b):=by
  show((a==b)&&true)=decide (a=b);rw[Bool.and_true];by_cases h:a=b<;>simp[h]
def Cq (n k:Int):Bool:=decide (dk .and .i64 n k≠0)
def yL (s:Sign)(due:Int):Int:=if due=-1 then 0 else s.day-due
def p6 (f:File)(sign:Int):Bool:=(List.range f.alters.length).any fun k=>decide ((f.alters.getD k default).at_≤sign)
def jO (c:Case):Int:=if c.holder<0 then 0 else c.holder
def pG (c:Case)(s:Sign):List (Int×Int):=[(0,c.file.bill.sum),(1,c.file.bill.parts),(2,c.file.bill.tenor.kind),(3,c.file.bill.rate),(4,s.kind),(5,c.defence),(6,yL s c.due)]
def pH (r:Realm)(c:Case)(s:Sign):List (Int×Bool):=[(7,Cq c.file.bill.flags 1),(8,decide (c.file.bill.payee=-1)),(9,Cq c.file.bill.flags 4),(10,Cq c.file.bill.flags 2),(11,decide (fB r c.file.bill.city≠fB r c.file.bill.pay)),(12,p6 c.file c.sign),(13,Cq s.flags 1),(14,decide (0<yL s c.due))]
def Hy (r:Realm)(c:Case)(s:Sign):List Cell:=
 (pG c s).map (fun p=>⟨true,p.2⟩)++(pH r c s).map (fun p=>gz p.2)++
    [gm c.file 0 c.sign,gm c.file 1 c.sign,gm c.file 2 c.sign,gm c.file 3 (jO c),gm c.file 4 (jO c)]
@[simp] theorem aGR (x:Case):j6 19 (ew x)=cZ x.file:=_root_.id rfl
@[simp] theorem aGP (x:Case):j6 15 (ew x)=dz x.file.bill:=_root_.id rfl
@[simp] theorem aGQ (x:File):j6 15 (cZ x)=dz x.bill:=_root_.id rfl
def oC (c:Case):Bool:=aA c.sign c.file.signs.length&&decide (-1≤c.holder)&&decide (jO c<c.file.signs.length)&&(decide (c.due=-1)||aA c.due 100001)
def fT (r:Realm)(c:Case):List Cell:=if oC c=true∧aA (c.file.signs.getD c.sign.toNat default).day 100001=true then Hy r c (c.file.signs.getD c.sign.toNat default) else[]
theorem aAR (r:Realm)(c:Case)(h2:c.file.facts.length≤100000)(h3:c.file.alters.length≤100000):ak T adO [bl r,ew c] (cells (fT r c)):=by
 refine .of_tree rfl akU aDl ?_;cases hs:aA c.sign c.file.signs.length
 ·have hv:fT r c=[]:=by unfold fT oC;rw[hs];simp
  rw[hv];simp[uz];refine⟨_,pC _ _,?_⟩;simp[hs];rfl
 by_cases hh:c.holder< -1
 ·have hv:fT r c=[]:=by unfold fT oC;rw[hs];simp;intros;omega
  rw[hv];simp[uz,hh];exact⟨⟨_,pC _ _⟩,rfl⟩
 by_cases hm:(c.file.signs.length:Int)≤jO c
 ·have hv:fT r c=[]:=by unfold fT oC;rw[hs];simp;intros;omega
  rw[hv];unfold jO at hm;simp[uz,hm];exact⟨⟨_,pC _ _⟩,rfl⟩
 by_cases hd:c.due≠-1∧aA c.due 100001=false
 ·have hv:fT r c=[]:=by unfold fT oC;rw[hs];simp[hd]
  rw[hv];unfold jO at hm;obtain⟨bu,dJ⟩:=hd;simp[uz,hh,hm,bu];refine⟨_,pC _ _,?_⟩;simp[hs,hh,hm,bu];refine⟨_,pC _ _,?_⟩;simp[hs,hh,hm,bu,dJ];rfl
 have hcb:oC c=true:=by
  unfold oC;rw[hs];simp;refine⟨⟨by omega,by omega⟩,?_⟩;by_cases h:c.due=-1
  ·exact .inl h
  ·right;cases hb:aA c.due 100001
   ·exact absurd ⟨h,hb⟩ hd
   ·rfl
 have hlen:c.sign.toNat<c.file.signs.length:=by simp[aA] at hs;omega
 have eC:0≤c.sign∧c.sign<(c.file.signs.length:Int):=by simpa [aA] using hs
 obtain⟨s,Dm⟩:∃s:Sign,s=c.file.signs[c.sign.toNat]:=⟨_,rfl⟩
 have lL:c.file.signs.getD c.sign.toNat default=s:=by rw[Dm];simp[hlen]
 have hv:fT r c=if aA s.day 100001=true then Hy r c s else[]:=by
  unfold fT;rw[lL,hcb];simp
 rw[hv];unfold jO at hm;by_cases CL:c.due=-1
 case' pos=>
  have aav:(c.due=-1)=True:=eq_true CL;simp[uz,hh,hm,aav];refine⟨_,pC _ _,?_⟩;simp[hs,hh,hm,aav,hlen,←Dm,eC]
 case' neg=>
  have td:aA c.due 100001=true:=by
   cases hb:aA c.due 100001
   ·exact absurd ⟨CL,hb⟩ hd
   ·rfl
  simp[uz,hh,hm,CL];refine⟨_,pC _ _,?_⟩;simp[hs,hh,hm,CL];refine⟨_,pC _ _,?_⟩;simp[hs,hh,hm,CL,td,hlen,←Dm,eC]
 all_goals
  refine⟨_,pC _ _,?_⟩;cases yi:aA s.day 100001
  ·simp[yi];rfl
  simp[yi,kC];refine aca (pG c s) D.int (fun n=>⟨true,n⟩) (fun _=>dK) ?_ ?_ ?_ ?_ (fun p hp g done=>?_) ?_
  ·intro p q hp hq h;simp[pG] at hp hq;rcases hp with rfl|rfl|rfl|rfl|rfl|rfl|rfl<;>rcases hq with rfl|rfl|rfl|rfl|rfl|rfl|rfl<;>first|rfl|(simp at h)
  ·intro p hp;simp[pG] at hp;rcases hp with rfl|rfl|rfl|rfl|rfl|rfl|rfl<;>simp
  ·have Pm:(if c.due=-1 then(0:Int) else IntKind.i64.wrap (s.day-c.due))=yL s c.due:=by
        unfold yL;by_cases h:c.due=-1
        ·simp[h]
        ·have td:aA c.due 100001=true:=by
          cases hb:aA c.due 100001
          ·exact absurd ⟨h,hb⟩ hd
          ·rfl
         simp[aA] at td yi;rw[if_neg h,if_neg h];exact bF (by omega)
   simp[pG,kC,hlen,←Dm];rw[←Pm];by_cases h:c.due=-1<;>simp[h]
  ·simp[gH];rfl
  ·have hr:0≤p.1∧p.1<20:=by
        simp[pG] at hp;rcases hp with rfl|rfl|rfl|rfl|rfl|rfl|rfl<;>simp
   have hk:p.1.toNat<20:=by omega
   simp[aAB,T8,qB,F5 g hk];exact hr
  have aui:∀k (hk:k<c.file.alters.length),ak T adP (oL c.file.alters[k]::[.ref (ew c)]) (.bool (decide ((c.file.alters.getD k default).at_≤c.sign))):=fun k hk=>by
   refine .of_tree rfl akV aDk ?_;simp[V8,hk]
  simp;refine⟨_,aiF c.file.alters _ _ _ aui (by omega),_,pB r _,_,pB r _,?_⟩;have Pm:(if c.due=-1 then(0:Int) else IntKind.i64.wrap (s.day-c.due))=yL s c.due:=by
   unfold yL;by_cases h:c.due=-1
   ·simp[h]
   ·have td:aA c.due 100001=true:=by
     cases hb:aA c.due 100001
     ·exact absurd ⟨h,hb⟩ hd
     ·rfl
    simp[aA] at td yi;rw[if_neg h,if_neg h];exact bF (by omega)
  have Pl:cells (Hy r c s)=gH (fun i=>if i=15 then gm c.file 0 c.sign else if i=16 then gm c.file 1 c.sign else if i=17 then gm c.file 2 c.sign else if i=18 then gm c.file 3 (jO c) else if i=19 then gm c.file 4 (jO c) else xO (pH r c s) gz (xO (pG c s) (fun n=>⟨true,n⟩) (fun _=>dK)) i):=by
   rfl
  generalize xO (pG c s) (fun n=>(⟨true,n⟩:Cell)) (fun _=>dK)=g1 at*;refine aca (pH r c s) D.bool gz g1 ?_ ?_ ?_ ?_ (fun p hp g done=>?_) ?_
  ·intro p q hp hq h;simp[pH] at hp hq;rcases hp with rfl|rfl|rfl|rfl|rfl|rfl|rfl|rfl<;>rcases hq with rfl|rfl|rfl|rfl|rfl|rfl|rfl|rfl<;>first|rfl|(simp at h)
  ·intro p hp;simp[pH] at hp;rcases hp with rfl|rfl|rfl|rfl|rfl|rfl|rfl|rfl<;>simp
  ·simp[pH,kC,hlen,←Dm,Cq];rw[←Pm];by_cases h:c.due=-1<;>simp[h,p6]
  ·simp
  ·have hr:0≤p.1∧p.1<20:=by
        simp[pH] at hp;rcases hp with rfl|rfl|rfl|rfl|rfl|rfl|rfl|rfl<;>simp
   have hk:p.1.toNat<20:=by omega
   simp[aAC,T9,qB,F5 g hk];refine⟨_,ag4 _,?_⟩;simp[F5 g hk];exact hr
  simp;generalize xO (pH r c s) gz g1=g2 at*;have Pp:(if c.holder<0 then D.int 0 else D.int c.holder)=D.int (jO c):=by
   unfold jO;split<;>rfl
  rw[Pp];refine⟨_,E6 _ _ _ (by omega),_,E6 _ _ _ (by omega),_,E6 _ _ _ (by omega),_,E6 _ _ _ (by omega),_,E6 _ _ _ (by omega),?_⟩;rw[Pl];simp only[al7,aBx,al9,al8];refine Yy fun i hi=>?_;by_cases HC:i=15
  ·subst HC;simp
  by_cases HD:i=16
  ·subst HD;simp
  by_cases HE:i=17
  ·subst HE;simp
  by_cases HF:i=18
  ·subst HF;simp
  by_cases Z3:i=19
  ·subst Z3;simp
  simp[HC,HD,HE,HF,Z3]
end Rm
namespace Rm
open Go Go.Proofs Cx
def Jk (n:Nat)(x:Int):Bool:=decide (x<0)||decide ((n:Int)≤x)
def lF (r:Realm)(a q:Int)(l:List Int):Bool:=
 !(decide (a<0)||decide ((r.orders.length:Int)≤a)||decide (q<0)||decide (22≤q)||decide (l.length≠5))&& !((List.range l.length).any fun k=>Jk r.orders.length (l.getD k 0))
theorem apQ (x n:Int):ak T Rq [.int x,.ref (.int n)] (.bool (decide (x<0)||decide (n≤x))):=by
 refine .of_tree rfl ajY aCj ?_;by_cases h:x<0<;>simp[Vb,h]
theorem ZI (r:Realm)(a q:Int)(l:List Int)(hl:l.length≤100000):ak T acY [bl r,.int a,.int q,ints l] (.bool (lF r a q l)):=by
 refine .of_tree rfl ajX aCk ?_;by_cases h1:a<0
 ·simp[uy,lF,h1]
 by_cases h2:(r.orders.length:Int)≤a
 ·simp[uy,lF,h1,h2]
 by_cases h3:q<0
 ·simp[uy,lF,h1,h2,h3]
 by_cases h4:22≤q
 ·simp[uy,lF,h1,h2,h3,h4]
 by_cases h5:(l.length:Int)=5
 ·have HH:l.length=5:=by omega
  simp[uy,h1,h2,h3,h4,HH];refine⟨_,aiG l Rq [.ref (.int r.orders.length)] (fun k=>Jk r.orders.length (l.getD k 0)) (fun k hk=>by simpa [Jk,hk] using apQ l[k] r.orders.length) (by omega),?_⟩;simp only[lF,HH];simp[h1,h2,h3,h4]
 ·have HH:¬l.length=5:=by omega
  simp[uy,lF,h1,h2,h3,h4,HH];intro h;omega
theorem OG {r:Realm}{a q:Int}{l:List Int}(h:lF r a q l=true):(0≤a∧a<r.orders.length)∧l.length=5∧(∀x,x∈l→0≤x∧x<r.orders.length)∧∀b:Int,0≤b→b<r.orders.length→lF r b q l=true:=by
 unfold lF at h ⊢;rw[ar] at h;obtain⟨h1,h2⟩:=h;simp at h1;refine⟨by omega,h1.2,fun x hx=>?_,fun b jk dm=>?_⟩
 ·obtain⟨k,hk,rfl⟩:=jB hx;simp[Jk] at h2;have:=h2 k hk;simp[hk] at this;omega
 ·rw[h2];simp;omega
def Al (r:Realm):Prop:=∀o,o∈r.orders→o.choices.length≤100000∧∀ch,ch∈o.choices→0≤ch.by_∧ch.by_<5
def vU (q:Int)(ch:Choice):Bool:=decide (ch.ask=q)&&decide (ch.by_≠0)
def nO (r:Realm)(a:Int):Order:=r.orders.getD a.toNat default
def fK (r:Realm)(a q:Int)(l:List Int):Int×Bool:=
 (match(nO r a).choices.find? (vU q) with|some ch=>l.getD ch.by_.toNat 0|none=>a,match(nO r a).choices.find? (vU q) with|some ch=>ch.whole|none=>false)
theorem Xm (r:Realm)(oR:Al r)(a q:Int)(l:List Int)(hl:l.length≤100000)(hf:lF r a q l=true):
 ak T acX [bl r,.int a,.int q,ints l] (.tup [.int (fK r a q l).1,.bool (fK r a q l).2])∧0≤(fK r a q l).1∧(fK r a q l).1<r.orders.length:=by
 obtain⟨ha,hl5,hx,_⟩:=OG hf;have ye:a.toNat<r.orders.length:=by omega
 obtain⟨bn,lH⟩:=oR _ (di ye);obtain⟨o,ho⟩:∃o,o=r.orders[a.toNat]:=⟨_,rfl⟩
 rw[←ho] at bn lH;have PO:nO r a=o:=by rw[ho];simp[nO,ye]
 unfold fK;rw[PO];refine⟨?_,?_⟩
 ·refine .of_tree rfl ajW aCi ?_;simp[Va];refine⟨_,ZI r a q l hl,?_⟩;simp[hf,ye,←ho,ha];refine aY.scan o.choices.length (fun k=>vU q (o.choices.getD k default)=false) (fun k=>[.int 0,.bool false,.int k]) (fun _=>[]) ?_ (fun k hk hj aE=>?_) (fun k hk hj aE=>?_) (fun hj=>?_)
  ·simp
  ·have hw:=bE hk (by omega);have hn:¬(o.choices[k].ask=q∧¬o.choices[k].by_=0):=by simpa [vU,hk] using aE
   simp[Tw,Ek,ye,←ho,hk,hw,hn]
  ·have ki:=xP hk (by simpa [hk] using aE) (fun j bS=>by have:=hj j bS;simpa [show j<o.choices.length by omega] using this);rw[ki];have hc:o.choices[k].ask=q∧¬o.choices[k].by_=0:=by simpa [vU,hk] using aE
   have hb:=lH _ (di hk);have HQ:o.choices[k].by_.toNat<l.length:=by omega
   simp[Tw,Ek,ye,←ho,hk,hc,ints,HQ];omega
  ·have ki:=Ck (l:=o.choices) (p:=vU q) (fun j bS=>by have:=hj j bS;simpa [bS] using this);rw[ki];simp[Tw,Ek,ye,←ho]
 ·cases ki:o.choices.find? (vU q) with
  |none=>exact ha
  |some ch=>
   have hb:=lH _ (pU ki);have HQ:ch.by_.toNat<l.length:=by omega
   simp[HQ];exact hx _ (di HQ)
theorem SN:∀(N:Nat) (l:List Int),l.Nodup→(∀x,x∈l→0≤x∧x<(N:Int))→l.length≤N
 |0,l,hn,h=>by
  cases l with
  |nil=>simp
  |cons a l=>have:=h a (by simp);omega
 |N+1,l,hn,h=>by
  by_cases hm:(N:Int)∈l
  ·have h1:=SN N (l.erase (N:Int)) (hn.erase _) (fun x hx=>by
    have dc:=(hn.mem_erase_iff).mp hx;have:=h x dc.2;have aB:=dc.1;omega)
   rw[List.length_erase_of_mem hm] at h1;omega
  ·have h1:=SN N l hn (fun x hx=>by
    have:=h x hx;have aB:x≠(N:Int):=fun e=>hm (e▸hx);omega)
   omega
def dg (l:List Int):Int:=l.getD (l.length-1) 0
def ky (r:Realm)(q:Int)(l:List Int):Nat→List Int→List Int×Int
 |0,p=>(p,0)
 |n+1,p=>
  if(fK r (dg p) q l).1=dg p then(p,0)
  else if(fK r (dg p) q l).2=false∨(hasB p (fK r (dg p) q l).1=true∧(nO r (fK r (dg p) q l).1).accepts=true) then(p++[(fK r (dg p) q l).1],0)
  else if hasB p (fK r (dg p) q l).1=true then(p++[(fK r (dg p) q l).1],12)
  else ky r q l n (p++[(fK r (dg p) q l).1])
theorem QH (r:Realm)(q:Int)(l:List Int)(n:Nat)(p:List Int):ky r q l (n+1) p=
 if(fK r (dg p) q l).1=dg p then(p,0)
 else if(fK r (dg p) q l).2=false∨(hasB p (fK r (dg p) q l).1=true∧(nO r (fK r (dg p) q l).1).accepts=true) then(p++[(fK r (dg p) q l).1],0)
 else if hasB p (fK r (dg p) q l).1=true then(p++[(fK r (dg p) q l).1],12)
 else ky r q l n (p++[(fK r (dg p) q l).1]):=rfl
def il (r:Realm)(a q:Int)(l:List Int):List Int×Int:=if lF r a q l=true∧l.getD 0 0=a then ky r q l r.orders.length [a] else([],1)
theorem aiS (r:Realm)(oR:Al r)(hn:r.orders.length≤100000)(a q:Int)(l:List Int)(hl:l.length≤100000):ak T acW [bl r,.int a,.int q,ints l] (.tup [ints (il r a q l).1,.int (il r a q l).2]):=by
 refine .of_tree rfl ajV aCh ?_;simp[U9];refine⟨_,ZI r a q l hl,?_⟩;cases hf:lF r a q l
 ·simp[il,hf];rfl
 obtain⟨ha,hl5,hx,yc⟩:=OG hf;have h0:0<l.length:=by omega
 by_cases CZ:l[0]=a
 ·have hE:il r a q l=ky r q l r.orders.length [a]:=by unfold il;rw[if_pos ⟨hf,by simp[h0,CZ]⟩]
  rw[hE];simp[h0,CZ,ints];refine aY.forLoop (α:=Nat×List Int) (fun s vr vo=>vr=[.list [],.int 0,.none]∧vo=[ints s.2]∧s.2.Nodup∧(∀x,x∈s.2→0≤x∧x<(r.orders.length:Int))∧s.2≠[]∧s.1+s.2.length=r.orders.length+1∧ky r q l s.1 s.2=ky r q l r.orders.length [a]) (fun s=>s.1) (r.orders.length,[a]) ?_ ?_
  ·simp[ints];exact ha
  ·rintro⟨n,p⟩ vr vo ⟨rfl,rfl,bp,bJ,aB,hlen,C0⟩;simp only at*;have dZ:p.length≤r.orders.length:=SN _ p bp bJ;have P1:0<p.length:=FL.mpr aB;obtain⟨m,rfl⟩:∃m,n=m+1:=⟨n-1,by omega⟩
   have ah:p.length-1<p.length:=by omega
   have kp:dg p=p[p.length-1]:=by simp[dg,ah]
   have vy:=bJ _ (di ah);rw[←kp] at vy;obtain⟨OW,gn,gp⟩:=Xm r oR (dg p) q l hl (yc _ vy.1 vy.2);have Pv:((p.length:Int)-1).toNat=p.length-1:=by omega
   have Qu:IntKind.i64.wrap ((p.length:Int)-1)=(p.length:Int)-1:=bF (by omega);rw[←C0,QH];obtain⟨L,hL⟩:∃L,L=fK r (dg p) q l:=⟨_,rfl⟩
   rw[←hL] at OW gn gp ⊢;obtain⟨to,whole⟩:=L;simp only at OW gn gp;have vK:to.toNat<r.orders.length:=by omega
   have PO:nO r to=r.orders[to.toNat]:=by simp[nO,vK]
   simp only[PO];simp[aAz,Tv,Qu,Pv,ah,←kp,ints];refine⟨by omega,_,OW,?_⟩;by_cases h1:to=dg p
   ·simp[h1]
   simp[h1];refine⟨_,uH p to (by omega),by omega,?_⟩;cases whole
   ·simp
   cases h2:hasB p to
   ·have db:to∉p:=fun hm=>by
     have:hasB p to=true:=by simp[hasB,hm]
     rw[h2] at this;cases this
    simp[h2];refine⟨m,by omega,p++[to],by simp,?_,?_,by simp,by simp;omega,rfl⟩
    ·exact Ar.mpr ⟨bp,by simp,fun x hx y hy=>by simp at hy;subst hy;exact fun e=>db (e▸hx)⟩
    ·intro x hx;rcases cY.mp hx with h|h
     ·exact bJ x h
     ·simp at h;subst h;exact⟨gn,gp⟩
   ·cases h3:r.orders[to.toNat].accepts<;>simp[h2,h3,vK]<;>omega
 ·have hE:il r a q l=([],1):=by unfold il;rw[if_neg (by simp[h0,CZ])]
  rw[hE];simp[h0,CZ];rfl
end Rm
namespace Rm
open Go Go.Proofs Cx
def dV (f:File)(i:Int):Sign:=f.signs.getD i.toNat default
def jX (r:Realm)(au:Int)(c:Case):List Int:=[au,fB r (dV c.file c.sign).city,fB r c.file.bill.pay,fB r c.file.bill.city,fB r (r.firms.getD (dV c.file c.sign).who.toNat default).city]
def mj (r:Realm)(au:Int)(c:Case):Prop:=(dV c.file c.sign).who<0∨(r.firms.length:Int)≤(dV c.file c.sign).who∨au<0∨(r.orders.length:Int)≤au
instance (r:Realm) (au:Int) (c:Case):Decidable (mj r au c):=by unfold mj;infer_instance
def gf (r:Realm)(au:Int)(c:Case):List Int:=if mj r au c then[] else if hasB (jX r au c) (-1)=true then[] else jX r au c
@[simp] theorem aG9 (r:Realm)(x:Int):xu (bl r) x=fB r x:=by
  unfold xu fB aA;by_cases h:0≤x∧x<(r.cities.length:Int)
  ·have hx:x.toNat<r.cities.length:=by omega
   rw[if_pos (by simpa using h),if_pos (by simpa using h)];simp[hx]
  ·rw[if_neg (by simpa using h),if_neg (by simpa using h)]
theorem af0 (r:Realm)(au:Int)(c:Case)(h1:c.sign.toNat<c.file.signs.length):SP [bl r,.int au,ew c]=ints (gf r au c):=by
 have hs:dV c.file c.sign=c.file.signs[c.sign.toNat]:=by simp[dV,h1]
 unfold SP gf;simp[h1];by_cases hb:mj r au c
 ·rw[if_pos (by simpa [mj,hs] using hb),if_pos hb];rfl
 ·rw[if_neg (by simpa [mj,hs] using hb),if_neg hb];have Ix:(dV c.file c.sign).who.toNat<r.firms.length:=by unfold mj at hb;omega
  have abv:c.file.signs[c.sign.toNat].who.toNat<r.firms.length:=by rw[←hs];exact Ix
  have jP:jX r au c=[au,fB r c.file.signs[c.sign.toNat].city,fB r c.file.bill.pay,fB r c.file.bill.city,fB r r.firms[c.file.signs[c.sign.toNat].who.toNat].city]:=by
   simp[jX,hs,abv]
  have cV:∀l:List Int,hasB l (-1)=true↔-1∈l:=fun l=>by simp[hasB]
  rw[jP];simp[abv];split
  ·rename_i h;rw[if_pos ((cV _).mpr (by simpa using h))];rfl
  ·rename_i h;rw[if_neg (fun h'=>h (by simpa using(cV _).mp h'))]
theorem af2 (r:Realm)(au:Int)(c:Case)(h1:0≤c.sign∧c.sign<c.file.signs.length):ak T ayF [bl r,.int au,ew c] (ints (gf r au c)):=by
 have cA:c.sign.toNat<c.file.signs.length:=by omega
 rw[←af0 r au c cA];have hs:dV c.file c.sign=c.file.signs[c.sign.toNat]:=by simp[dV,cA]
 refine ak.of_nsl rfl aBZ aB0 ?_;rw[af0 r au c cA];by_cases hb:mj r au c
 ·refine .inr ⟨by simp[gf,hb];rfl,?_⟩;have fZ:=hb;simp[mj,hs] at fZ;simp[MJ,h1,cA]
  intros;omega
 have qk:gf r au c=if hasB (jX r au c) (-1)=true then[] else jX r au c:=by unfold gf;rw[if_neg hb]
 have fZ:=hb;simp[mj,hs] at fZ;have hw:c.file.signs[c.sign.toNat].who.toNat<r.firms.length:=by omega
 have hC:=uH (jX r au c) (-1) (by simp[jX]);cases hh:hasB (jX r au c) (-1)<;>rw[hh] at hC<;>simp[jX,ints,hs,hw] at hC
 ·refine .inl ⟨(jX r au c).map .int,by simp[jX],by rw[qk,hh];rfl,?_⟩;simp[UU,h1,cA,hw];rw[if_neg (by omega)];refine⟨_,pB r _,_,pB r _,_,pB r _,by omega,_,pB r _,_,by simpa using hC,?_⟩;simp[jX,hs,hw]
 ·refine .inr ⟨by rw[qk,hh];rfl,?_⟩;simp[MJ,h1,cA,hw]
  intros
  refine⟨_,pB r _,_,pB r _,_,pB r _,by omega,_,pB r _,_,by simpa using hC,?_⟩;simp
end Rm
