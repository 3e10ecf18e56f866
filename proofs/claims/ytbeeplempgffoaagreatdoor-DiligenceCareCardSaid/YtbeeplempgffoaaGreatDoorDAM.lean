/-
  Shared texts of this claim.
-/
import Derived.Test.YtbeeplempgffoaaGreatDoorDAL
import Derived.Lib.Mul64
set_option linter.unusedSimpArgs false
set_option linter.unusedVariables false
namespace Rm
open Go Go.Proofs Cx
def fC:List Int→Int
 |[]=>0
 |x::l=>if x=0 then fC l else x
theorem GN:∀{l:List Int},fC l=0↔∀x,x∈l→x=0
 |[]=>by simp[fC]
 |x::l=>by
  simp only[fC,cW,forall_eq_or_imp];by_cases h:x=0
  ·simp[h,GN (l:=l)]
  ·simp[h]
def pI (r:Realm)(i:Nat):Bool:=ax (r.firms.getD i default).city r.cities.length&&ax (r.firms.getD i default).group r.groups.length
def mY (r:Realm)(i:Nat):Bool:=mf r (r.cities.getD i default)
def nA (r:Realm)(i:Nat):Bool:=oC (r.orders.getD i default)
def wR (r:Realm)(i:Nat):Bool:=ax (r.groups.getD i default).grade 10
def uw (r:Realm):Int:=if 20<r.groups.length then 6 else if eV r.groups.length (wR r) then 0 else 1
def dv (r:Realm):Int:=fC [eM r.currencies 8 (fun _=>true),eM (fc r) 40 (mY r),uw r,eM (fJ r) 200 (pI r),eM (fe r) 20 (nA r),rM r,oN r]
theorem akA (i:Int):ak T 115 [.int i] (.bool true):=by
 refine .of_tree rfl (lA 61 (by kernel_rfl)) ay5 ?_;simp[Xa]
theorem akB (r:Realm)(h:Small r)(i:Nat)(hi:i<r.cities.length):ak T 116 [.int i,.ref (aQ r)] (.bool (mY r i)):=by
 refine .of_tree rfl (lA 62 (by kernel_rfl)) ay6 ?_;obtain⟨h1,h2,h3,h4⟩:=h.city _ (cv hi);simp[Xb,hi,mY];exact avE r r.cities[i] (by omega) (by omega) (by omega)
theorem akC (r:Realm)(i:Nat)(hi:i<r.firms.length):ak T 119 [.int i,.ref (aQ r)] (.bool (pI r i)):=by
 refine .of_tree rfl (lA 65 (by kernel_rfl)) ay7 ?_;simp[Xc,hi,pI];refine⟨_,fX _ _,?_⟩;simp[hi];cases e1:ax r.firms[i].city r.cities.length<;>simp;exact fX _ _
theorem akD (r:Realm)(h:Small r)(i:Nat)(hi:i<r.orders.length):ak T 120 [.int i,.ref (aQ r)] (.bool (nA r i)):=by
 refine .of_tree rfl (lA 66 (by kernel_rfl)) ay8 ?_;obtain⟨h1,h2⟩:=h.order _ (cv hi);simp[Xd,hi,nA];exact avI r.orders[i] (by omega) (by omega)
theorem MO (r:Realm)(h:Small r):ak T 74 [aQ r] (.int (dv r)):=by
 refine .of_tree rfl (lA 54 (by kernel_rfl)) ay9 ?_;have g1:=h.cur;have g2:=h.cities;have g3:=h.firms;have g4:=h.orders;have g5:=h.groups;simp[W9];refine⟨_,avH r (by omega) (by omega) (by omega),?_⟩;simp;refine⟨_,MQ r.currencies 8 115 [] (fun _=>true) (fun i _=>akA _) (by omega),?_⟩;unfold dv;generalize e1:eM r.currencies 8 (fun _=>true)=x1;by_cases z1:x1=0
 case neg=>simp[z1,fC]
 simp[z1,fC];refine⟨_,MQ (fc r) 40 116 [.ref (aQ r)] (mY r) (fun i hi=>akB r h i (by simpa [fc] using hi)) (by simp[fc];omega),?_⟩;generalize e2:eM (fc r) 40 (mY r)=x2;by_cases z2:x2=0
 case neg=>simp[z2]
 simp[z2];by_cases z3:20<r.groups.length
 ·have Ys:(20:Int)<r.groups.length:=by omega
  simp[Ys,uw,z3]
 have Ys:¬(20:Int)<r.groups.length:=by omega
 simp[Ys,uw,z3];refine gu r.groups.length (wR r) (fun k=>[.int 0,.int k]) (fun _=>[]) ?_ (fun k hk ho=>?_) (fun k hk ho hb=>?_) (fun hj=>?_)
 ·simp
 ·have hw:=bk hk (by omega);simp[wR,hk] at ho;simp[Ut,Ge,hk];refine⟨_,fX _ _,?_⟩;simp[ho,hw]
 ·simp[wR,hk] at ho;rw[hb];simp[Ut,Ge,hk];refine⟨_,fX _ _,?_⟩;simp[ho]
 ·rw[hj];simp[Ut,Ge];refine⟨_,MQ (fJ r) 200 119 [.ref (aQ r)] (pI r) (fun i hi=>akC r i (by simpa [fJ] using hi)) (by simp[fJ];omega),?_⟩;generalize e4:eM (fJ r) 200 (pI r)=x4;by_cases z4:x4=0
  case neg=>simp[z4]
  simp[z4];refine⟨_,MQ (fe r) 20 120 [.ref (aQ r)] (nA r) (fun i hi=>akD r h i (by simpa [fe] using hi)) (by simp[fe];omega),?_⟩;generalize e5:eM (fe r) 20 (nA r)=x5;by_cases z5:x5=0
  case neg=>simp[z5]
  simp[z5];refine⟨_,avK r h,?_⟩;generalize e6:rM r=x6;by_cases z6:x6=0
  case neg=>simp[z6]
  simp[z6];have e7:(if oN r=0 then 0 else oN r)=oN r:=by split<;>simp_all
  rw[e7];exact avJ r h
theorem amt (l:List ByteArray)(k:Nat):kl l (fun _=>true) k=gW l k:=by
 unfold kl;by_cases h:gW l k=0<;>simp[h]
theorem At {l:List ByteArray}{g:Nat→Bool}{k:Nat}(h:kl l g k=0):gW l k=0∧g k=true:=by
 unfold kl at h;by_cases h1:gW l k=0
 ·simp[h1] at h;exact⟨h1,h⟩
 ·simp[h1] at h
theorem PL {l:List ByteArray}{g:Nat→Bool}{k:Nat}(h:kl l g k≠0):(gW l k≠0∧kl l g k=gW l k)∨(gW l k=0∧g k=false∧kl l g k=1):=by
 unfold kl at h ⊢;by_cases h1:gW l k=0
 ·simp[h1] at h ⊢;simp[h]
 ·simp[h1]
theorem auL (r:Realm)(h:Small r):ak T 58 [aQ r] (.int (fC [eM r.currencies 8 (fun _=>true),eM (fc r) 40 (mY r)])):=by
 refine .of_tree rfl (lA 110 (by kernel_rfl)) ayc ?_;have g1:=h.cur;have g2:=h.cities;have g4:=h.orders;simp[Ws];unfold eM;by_cases z1:(8:Int)<r.currencies.length
 ·simp[z1,fC]
 simp[z1,fC];refine nL r.currencies.length (kl r.currencies (fun _=>true)) (fun k=>[.int 0,.int k]) (fun _=>[]) ?_ (fun k hk ho=>?_) (fun k hk ho hb=>?_) (fun hj=>?_)
 ·simp
 ·have hw:=bk hk (by omega);simp[T9,FU,hk];refine⟨_,Ft _ k hk (by omega),?_⟩;simp[(At ho).1,hw]
 ·rw[hb];simp[T9,FU,hk,ho];rw[amt];exact Ft _ k hk (by omega)
 ·rw[hj];simp[T9,FU];have hlen:(fc r).length=r.cities.length:=by simp[fc]
  rw[hlen];by_cases z2:(40:Int)<r.cities.length
  ·simp[z2]
  simp[z2];have key:∀k (hk:k<r.cities.length),((fc r).take k).length=k∧D.list (List.take k (List.map str (fc r))++[str r.cities[k].name])=strs ((fc r).take (k+1))∧
     ak T 105 [strs ((fc r).take (k+1)),.int k] (.int (gW (fc r) k))∧ak T 106 [aQ r,fm r.cities[k]] (.bool (mY r k)):=by
   intro k hk;have bo:k<(fc r).length:=by omega
   have hg:(fc r)[k]=r.cities[k].name:=by simp[fc]
   have hs:(fc r).take (k+1)=(fc r).take k++[(fc r)[k]]:=jO bo;have hn:=Ft ((fc r).take (k+1)) k (by rw[eH];omega) (by rw[eH];omega);rw[RD _ _ _ (by omega)] at hn;obtain⟨c1,c2,c3,c4⟩:=h.city _ (cv hk);have hc:=auJ r r.cities[k] (by omega) (by omega) (by omega) (by omega) (by omega) c4;rw[akJ] at hc;exact⟨by rw[eH];omega,by rw[hs,hg];simp[strs],hn,by simpa [mY,hk] using hc⟩
  refine nL r.cities.length (kl (fc r) (mY r)) (fun k=>[.int 0,.none,.int k]) (fun k=>[strs ((fc r).take k)]) ?_ (fun k hk ho=>?_) (fun k hk ho hb=>?_) (fun hj=>?_)
  ·simp[strs]
  ·have hw:=bk hk (by omega);obtain⟨hl,eX,hn,hc⟩:=key k hk;obtain⟨o1,o2⟩:=At ho;rw[o1] at hn;rw[o2] at hc;simp[Ua,FV,hk,hl,eX,awA];refine⟨by omega,_,hn,?_⟩;simp[hk];refine⟨_,hc,?_⟩;simp[hw]
  ·rw[hb];obtain⟨hl,eX,hn,hc⟩:=key k hk;simp[Ua,FV,hk,hl,eX,ho];refine⟨by omega,_,hn,?_⟩;rcases PL ho with⟨o1,o2⟩|⟨o1,o2,o3⟩
   ·simp[o1,o2]
   ·rw[o2] at hc;simp[o1,o3,hk];refine⟨_,hc,?_⟩;simp
  ·rw[hj];simp[Ua,FV]
theorem auM (r:Realm)(h:Small r):ak T 59 [aQ r] (.int (fC [uw r,eM (fJ r) 200 (pI r)])):=by
 refine .of_tree rfl (lA 118 (by kernel_rfl)) ayd ?_;have g1:=h.groups;have g2:=h.firms;have g3:=h.cities;have w3:=rR r.cities.length (by omega);have w1:=rR r.groups.length (by omega);simp[Wt];by_cases z1:20<r.groups.length
 ·have Yr:(20:Int)<r.groups.length:=by omega
  simp[Yr,uw,z1,fC]
 have Yr:¬(20:Int)<r.groups.length:=by omega
 simp[Yr,uw,z1,fC];refine gu r.groups.length (wR r) (fun k=>[.int 0,.int k]) (fun _=>[]) ?_ (fun k hk ho=>?_) (fun k hk ho hb=>?_) (fun hj=>?_)
 ·simp
 ·have hw:=bk hk (by omega);simp[wR,hk] at ho;have e:wi r.groups[k].grade 0 9=ax r.groups[k].grade 10:=by rw[qx];simp[wi,ax];omega
  simp[Ub,FW,hk];refine⟨_,cB _ _ _,?_⟩;simp[e,ho,hw]
 ·simp[wR,hk] at ho;have e:wi r.groups[k].grade 0 9=ax r.groups[k].grade 10:=by rw[qx];simp[wi,ax];omega
  rw[hb];simp[Ub,FW,hk];refine⟨_,cB _ _ _,?_⟩;simp[e,ho]
 ·rw[hj];simp[Ub,FW];unfold eM;have hlen:(fJ r).length=r.firms.length:=by simp[fJ]
  rw[hlen];by_cases z2:(200:Int)<r.firms.length
  ·simp[z2]
  simp[z2];have key:∀k (hk:k<r.firms.length),((fJ r).take k).length=k∧D.list (List.take k (List.map str (fJ r))++[str r.firms[k].name])=strs ((fJ r).take (k+1))∧
     ak T 105 [strs ((fJ r).take (k+1)),.int k] (.int (gW (fJ r) k))∧pI r k=(wi r.firms[k].city 0 ((r.cities.length:Int)-1)&&wi r.firms[k].group 0 ((r.groups.length:Int)-1)):=by
   intro k hk;have bo:k<(fJ r).length:=by omega
   have hg:(fJ r)[k]=r.firms[k].name:=by simp[fJ]
   have hs:(fJ r).take (k+1)=(fJ r).take k++[(fJ r)[k]]:=jO bo;have hn:=Ft ((fJ r).take (k+1)) k (by rw[eH];omega) (by rw[eH];omega);rw[RD _ _ _ (by omega)] at hn;exact⟨by rw[eH];omega,by rw[hs,hg];simp[strs],hn,by simp[pI,hk,nr]⟩
  refine nL r.firms.length (kl (fJ r) (pI r)) (fun k=>[.int 0,.none,.int k]) (fun k=>[strs ((fJ r).take k)]) ?_ (fun k hk ho=>?_) (fun k hk ho hb=>?_) (fun hj=>?_)
  ·simp[strs]
  ·have hw:=bk hk (by omega);obtain⟨hl,eX,hn,hc⟩:=key k hk;obtain⟨o1,o2⟩:=At ho;rw[o1] at hn;rw[o2] at hc;have mm:=Bool.and_eq_true_iff.1 hc.symm;simp[Uc,FX,hk,hl,eX];refine⟨by omega,_,hn,?_⟩;simp[hk,w3];refine⟨_,cB _ _ _,?_⟩;simp[mm.1,hk,w1];refine⟨_,cB _ _ _,?_⟩;simp[mm.2,hw]
  ·rw[hb];obtain⟨hl,eX,hn,hc⟩:=key k hk;simp[Uc,FX,hk,hl,eX,ho];refine⟨by omega,_,hn,?_⟩;rcases PL ho with⟨o1,o2⟩|⟨o1,o2,o3⟩
   ·simp[o1,o2]
   ·rw[o2] at hc;simp[o1,o3,hk,w3];refine⟨_,cB _ _ _,?_⟩;cases e1:wi r.firms[k].city 0 ((r.cities.length:Int)-1)
    ·simp
    rw[e1,yK] at hc;simp[hk,w1];refine⟨_,cB _ _ _,?_⟩;simp[←hc]
  ·rw[hj];simp[Uc,FX]
theorem auN (r:Realm)(h:Small r):ak T 60 [aQ r] (.int (eM (fe r) 20 (nA r))):=by
 refine .of_tree rfl (lA 119 (by kernel_rfl)) ayf ?_;have g2:=h.orders;simp[Wv];unfold eM;have hlen:(fe r).length=r.orders.length:=by simp[fe]
 rw[hlen];by_cases z2:(20:Int)<r.orders.length
 ·simp[z2]
 simp[z2];have key:∀k (hk:k<r.orders.length),((fe r).take k).length=k∧D.list (List.take k (List.map str (fe r))++[str r.orders[k].name])=strs ((fe r).take (k+1))∧
  ak T 105 [strs ((fe r).take (k+1)),.int k] (.int (gW (fe r) k))∧ak T 108 [gT r.orders[k]] (.bool (nA r k)):=by
  intro k hk;have bo:k<(fe r).length:=by omega
  have hg:(fe r)[k]=r.orders[k].name:=by simp[fe]
  have hs:(fe r).take (k+1)=(fe r).take k++[(fe r)[k]]:=jO bo;have hn:=Ft ((fe r).take (k+1)) k (by rw[eH];omega) (by rw[eH];omega);rw[RD _ _ _ (by omega)] at hn;obtain⟨c1,c2⟩:=h.order _ (cv hk);exact⟨by rw[eH];omega,by rw[hs,hg];simp[strs],hn,by simpa [nA,hk] using auK r.orders[k] (by omega) (by omega)⟩
 refine nL r.orders.length (kl (fe r) (nA r)) (fun k=>[.int 0,.none,.int k]) (fun k=>[strs ((fe r).take k)]) ?_ (fun k hk ho=>?_) (fun k hk ho hb=>?_) (fun hj=>?_)
 ·simp[strs]
 ·have hw:=bk hk (by omega);obtain⟨hl,eX,hn,hc⟩:=key k hk;obtain⟨o1,o2⟩:=At ho;rw[o1] at hn;rw[o2] at hc;simp[Ud,FY,hk,hl,eX];refine⟨by omega,_,hn,?_⟩;simp[hk];refine⟨_,hc,?_⟩;simp[hw]
 ·rw[hb];obtain⟨hl,eX,hn,hc⟩:=key k hk;simp[Ud,FY,hk,hl,eX,ho];refine⟨by omega,_,hn,?_⟩;rcases PL ho with⟨o1,o2⟩|⟨o1,o2,o3⟩
  ·simp[o1,o2]
  ·rw[o2] at hc;simp[o1,o3,hk];refine⟨_,hc,?_⟩;simp
 ·rw[hj];simp[Ud,FY]
theorem agw (r:Realm)(h:Small r):ak T 25 [aQ r] (.int (dv r)):=by
 refine .of_tree rfl (lA 109 (by kernel_rfl)) ax1 ?_
 have e:dv r=fC [fC [eM r.currencies 8 (fun _=>true),eM (fc r) 40 (mY r)],fC [uw r,eM (fJ r) 200 (pI r)],eM (fe r) 20 (nA r),rM r,oN r]:=by
  unfold dv;simp only[fC];split<;>(try split)<;>(try split)<;>(try split)<;>simp_all
 rw[e];simp[Wi];refine⟨_,auL r h,?_⟩;have h1:=auM r h;generalize fC [eM r.currencies 8 (fun _=>true),eM (fc r) 40 (mY r)]=x1 at*;generalize fC [uw r,eM (fJ r) 200 (pI r)]=x2 at*;have h2:=auN r h;generalize eM (fe r) 20 (nA r)=x3 at*;have h3:=auP r h;generalize rM r=x4 at*;have h4:=auO r h;generalize oN r=x5 at*;by_cases z1:x1=0
 case neg=>simp[z1,fC]
 simp[z1,fC];refine⟨_,h1,?_⟩;by_cases z2:x2=0
 case neg=>simp[z2]
 simp[z2];refine⟨_,h2,?_⟩;by_cases z3:x3=0
 case neg=>simp[z3]
 simp[z3];refine⟨_,h3,?_⟩;by_cases z4:x4=0
 case neg=>simp[z4]
 simp[z4];have e7:(if x5=0 then 0 else x5)=x5:=by split<;>simp_all
 rw[e7];exact h4
end Rm
namespace Rm
open Go Go.Proofs Cx
def fZ:Nat→Tm→Int→Int
 |0,_,_=>-1
 |L+1,t,n=>t.args.foldl (fun m a=>if 0≤m then fZ L a m else m) (n-1)
theorem size_le:∀(L:Nat) (t:Tm) (n:Int),0≤n→-1≤fZ L t n∧fZ L t n≤n
 |0,t,n,h=>by simp[fZ];omega
 |L+1,t,n,h=>by
  have key:∀(l:List Tm) (m:Int),-1≤m→m≤n→-1≤l.foldl (fun m a=>if 0≤m then fZ L a m else m) m∧l.foldl (fun m a=>if 0≤m then fZ L a m else m) m≤n:=by
   intro l
   induction l with
   |nil=>intro m h1 h2;exact⟨h1,h2⟩
   |cons a l ih=>
    intro m h1 h2;simp only[Ha];split
    ·rename_i hm;have:=size_le L a m hm;exact ih _ this.1 (by omega)
    ·exact ih _ h1 h2
  exact key _ _ (by omega) (by omega)
theorem M5 (L:Nat):∀(l:List Tm) (m:Int),m<0→l.foldl (fun m a=>if 0≤m then fZ L a m else m) m=m
 |[],m,h=>rfl
 |a::l,m,h=>by simp only[Ha];rw[if_neg (by omega)];exact M5 L l m h
theorem anJ {α β:Type}(f:β→α→β)(b:β){l:List α}{k:Nat}(h:k<l.length):(l.take (k+1)).foldl f b=f ((l.take k).foldl f b) l[k]:=by
 rw[jO h,Cp];rfl
theorem anI {α β:Type}(f:β→α→β)(b:β)(l:List α)(k:Nat):l.foldl f b=(l.drop k).foldl f ((l.take k).foldl f b):=by
 rw[←Cp,N4]
theorem _root_.Cx.Tm.OK.len {t:Tm}(h:t.OK):t.args.length≤9223372036854775807:=by cases h with|mk o n xs h1 h2 h3 h4=>exact h3
theorem _root_.Cx.Tm.OK.arg {t:Tm}(h:t.OK){a:Tm}(ha:a∈t.args):a.OK:=by cases h with|mk o n xs h1 h2 h3 h4=>exact h4 a ha
theorem TF:∀(L:Nat) (t:Tm) (n:Int),t.OK→0≤n→n≤1000→L≤1000→ak T 147 [di t,.int n,.int L] (.int (fZ L t n))
 |0,t,n,ht,h0,h1,hL=>by
  refine .of_tree rfl Zm ahY ?_;simp[Nt,fZ]
 |L+1,t,n,ht,h0,h1,hL=>by
  refine .of_tree rfl Zm ahY ?_;have Bb:IntKind.i64.wrap (n-1)=n-1:=aJ (by omega);have hl:=ht.len;have pU:¬((L:Int)+1<1):=by omega
  simp[Nt,Bb,pU]
  let g:Nat→Int:=fun k=>(t.args.take k).foldl (fun m a=>if 0≤m then fZ L a m else m) (n-1)
  have gb:∀k,-1≤g k∧g k≤1000:=by
   intro k;have:g k=fZ (L+1) (.mk 0 0 (t.args.take k)) n:=rfl;have:=size_le (L+1) (.mk 0 0 (t.args.take k)) n h0;omega
  refine .scan t.args.length (fun k=>0≤g k) (fun k=>[.int (g k),.int k]) (fun _=>[]) ?_ (fun k hk hj ho=>?_) (fun k hk hj ho=>?_) (fun hj=>?_)
  ·simp[g,Bb]
  ·have hw:IntKind.i64.wrap ((k:Int)+1)=(k:Int)+1:=aJ (by omega);have xu:IntKind.i64.wrap (L:Int)=(L:Int):=aJ (by omega);have hg:g (k+1)=fZ L t.args[k] (g k):=by
    show(t.args.take (k+1)).foldl _ _=_;rw[anJ _ _ hk];show(if 0≤g k then _ else _)=_;rw[if_pos ho]
   rw[hg];have fp:=TF L t.args[k] (g k) (ht.arg (cv hk)) ho (gb k).2 (by omega);generalize g k=m at*;simp[Ul,F7,hk,ho,xu];refine⟨_,fp,?_⟩;simp[hw]
  ·have hf:fZ (L+1) t n=g k:=by
    show t.args.foldl _ _=_;rw[anI _ _ _ k];exact M5 L _ _ (by show g k<0;omega)
   rw[hf];generalize g k=m at*;simp[Ul,F7,hk,ho]
  ·have hf:fZ (L+1) t n=g t.args.length:=by
    show t.args.foldl _ _=(t.args.take t.args.length).foldl _ _;rw[qB]
   rw[hf];generalize g t.args.length=m at*;simp[Ul,F7]
theorem agI (t:Tm)(ht:t.OK):ak T 104 [di t] (.bool (decide (0≤fZ 20 t 100))):=by
 refine .of_tree rfl (lA 107 (by kernel_rfl)) ayz ?_;simp[WL];refine⟨_,TF 20 t 100 ht (by omega) (by omega) (by omega),?_⟩;simp
def qN (o:Order):Bool:=(decide (o.rules.length≤60)&&decide (o.choices.length≤60))&&eV o.rules.length (fun k=>decide (0≤fZ 20 (o.rules.getD k default).term 100))
theorem agN (o:Order)(ho:o.OK):ak T 57 [gT o] (.bool (qN o)):=by
 refine .of_tree rfl (lA 106 (by kernel_rfl)) ayM ?_;simp[WS];by_cases h1:(o.rules.length:Int)≤60
 case neg=>
  have cu:(60:Int)<o.rules.length:=by omega
  have hf:qN o=false:=by
   have:decide (o.rules.length≤60)=false:=decide_eq_false (by omega);simp only[qN,this,rT]
  simp[cu,hf]
 by_cases h2:(o.choices.length:Int)≤60
 case neg=>
  have cu:(60:Int)<o.choices.length:=by omega
  have hf:qN o=false:=by
   have:decide (o.choices.length≤60)=false:=decide_eq_false (by omega);simp only[qN,this,rT,yI]
  simp[cu,hf]
 have cu:¬(60:Int)<o.rules.length:=by omega
 have jn:¬(60:Int)<o.choices.length:=by omega
 have hf:qN o=eV o.rules.length (fun k=>decide (0≤fZ 20 (o.rules.getD k default).term 100)):=by
  have e1:decide (o.rules.length≤60)=true:=decide_eq_true (by omega);have e2:decide (o.choices.length≤60)=true:=decide_eq_true (by omega);simp only[qN,e1,e2,yK]
 rw[hf];simp[cu,jn];have hO:=ho.2.2;refine gu o.rules.length (fun k=>decide (0≤fZ 20 (o.rules.getD k default).term 100)) (fun k=>[.bool false,.int k]) (fun _=>[]) ?_ (fun k hk ho=>?_) (fun k hk ho hb=>?_) (fun hj=>?_)
 ·simp
 ·have hw:=bk hk (by omega);simp[hk] at ho;simp[Un,F9,hk];refine⟨_,agI _ (hO _ (cv hk)).2,?_⟩;simp[ho,hw]
 ·simp only[bh] at hb;rw[hb];simp[hk] at ho;simp[Un,F9,hk];refine⟨_,agI _ (hO _ (cv hk)).2,?_⟩;simp[ho]
 ·simp only[bh] at hj;rw[hj];simp[Un,F9]
def DG (f:File):Bool:=decide ((f.signs.length:Int)≤50)&&decide ((f.alters.length:Int)≤10)&&decide ((f.acts.length:Int)≤110)&&decide ((f.facts.length:Int)≤220)
theorem auY (f:File):ak T 56 [bT f] (.bool (DG f)):=by
 refine .of_tree rfl (lA 105 (by kernel_rfl)) ayp ?_;simp[WE,DG];by_cases h1:(f.signs.length:Int)≤50<;>by_cases h2:(f.alters.length:Int)≤10<;>by_cases h3:(f.acts.length:Int)≤110<;>by_cases h4:(f.facts.length:Int)≤220<;>
  simp[h1,h2,h3,h4]
end Rm
namespace Rm
open Go Go.Proofs Cx
def DE (r:Realm)(k:Nat):Bool:=decide (((r.cities.getD k default).feasts.length:Int)≤70)&&decide (((r.cities.getD k default).shut.length:Int)≤210)&&decide (((r.cities.getD k default).rest.length:Int)≤8)
def DF (r:Realm)(k:Nat):Bool:=decide (((r.orders.getD k default).choices.length:Int)≤40)&&decide (((r.orders.getD k default).rules.length:Int)≤40)
def JM (r:Realm):Bool:=decide ((r.currencies.length:Int)<50)&&decide ((r.cities.length:Int)<50)&&decide ((r.groups.length:Int)<50)&&decide ((r.firms.length:Int)<210)&&decide ((r.orders.length:Int)<50)&&decide ((r.usances.length:Int)<110)&&decide ((r.rates.length:Int)<110)&&decide ((r.halts.length:Int)<50)
def pG (r:Realm):Bool:=eV (min r.cities.length 50) (DE r)&&eV (min r.orders.length 50) (DF r)&&JM r
theorem auH (r:Realm)(hr:r.OK):ak T 55 [aQ r] (.bool (pG r)):=by
 refine .of_tree rfl (lA 104 (by kernel_rfl)) ax2 ?_;simp[Wj];refine gu (min r.cities.length 50) (DE r) (fun k=>[.bool false,.int k]) (fun _=>[]) ?_ (fun k hk ho=>?_) (fun k hk ho hb=>?_) (fun hj=>?_)
 ·simp
 ·have bI:k<r.cities.length:=by omega
  have cY:k<50:=by omega
  have hw:=bk cY (by omega);simp[DE,bI] at ho;obtain⟨⟨a1,a2⟩,a3⟩:=ho;have b1:¬(70:Int)<r.cities[k].feasts.length:=by omega
  have b2:¬(210:Int)<r.cities[k].shut.length:=by omega
  have b3:¬(8:Int)<r.cities[k].rest.length:=by omega
  simp[FL,yo,bI,cY,hw,b1,b2,b3];omega
 ·have bI:k<r.cities.length:=by omega
  have cY:k<50:=by omega
  have hf:pG r=false:=by simp only[pG,hb,rT]
  rw[hf];simp[DE,bI] at ho;by_cases b1:(70:Int)<r.cities[k].feasts.length
  ·simp[FL,yo,bI,cY,b1];omega
  by_cases b2:(210:Int)<r.cities[k].shut.length
  ·simp[FL,yo,bI,cY,b1,b2];omega
  have b3:(8:Int)<r.cities[k].rest.length:=by have:=ho (by omega) (by omega);omega
  simp[FL,yo,bI,cY,b1,b2,b3];omega
 ·have hn:¬((min r.cities.length 50:Nat):Int)<r.cities.length∨¬((min r.cities.length 50:Nat):Int)<50:=by omega
  simp[FL,yo];rw[if_neg (by omega)];refine gu (min r.orders.length 50) (DF r) (fun k=>[.bool false,.int k]) (fun _=>[]) ?_ (fun k hk ho=>?_) (fun k hk ho hb=>?_) (fun Ea=>?_)
  ·simp
  ·have bI:k<r.orders.length:=by omega
   have cY:k<50:=by omega
   have hw:=bk cY (by omega);simp[DF,bI] at ho;obtain⟨a1,a2⟩:=ho;have b1:¬(40:Int)<r.orders[k].choices.length:=by omega
   have b2:¬(40:Int)<r.orders[k].rules.length:=by omega
   simp[Mv,BN,bI,cY,hw,b1,b2];omega
  ·have bI:k<r.orders.length:=by omega
   have cY:k<50:=by omega
   have hf:pG r=false:=by simp only[pG,hb,rT,yI]
   rw[hf];simp[DF,bI] at ho;by_cases b1:(40:Int)<r.orders[k].choices.length
   ·simp[Mv,BN,bI,cY,b1];omega
   have b2:(40:Int)<r.orders[k].rules.length:=by have:=ho (by omega);omega
   simp[Mv,BN,bI,cY,b1,b2];omega
  ·have hf:pG r=JM r:=by simp only[pG,hj,Ea,yK]
   rw[hf];simp[Mv,BN];rw[if_neg (by omega)];unfold JM;by_cases c1:(r.currencies.length:Int)<50<;>simp[c1];by_cases c2:(r.cities.length:Int)<50<;>simp[c2];by_cases c3:(r.groups.length:Int)<50<;>simp[c3];by_cases c4:(r.firms.length:Int)<210<;>simp[c4];by_cases c5:(r.orders.length:Int)<50<;>simp[c5];by_cases c6:(r.usances.length:Int)<110<;>simp[c6];by_cases c7:(r.rates.length:Int)<110<;>simp[c7]
theorem PF {r:Realm}(hr:r.OK)(h:pG r=true):Small r:=by
 simp only[pG,JM,az,decide_eq_true_eq,we] at h;obtain⟨⟨h1,h2⟩,⟨⟨⟨⟨⟨⟨⟨c1,c2⟩,c3⟩,c4⟩,c5⟩,c6⟩,c7⟩,c8⟩⟩:=h;obtain⟨k1,⟨k2,k2'⟩,⟨k3,k3'⟩,⟨k4,k4'⟩,⟨k5,k5'⟩,⟨k6,k6'⟩,⟨k7,k7'⟩,⟨k8,k8'⟩⟩:=hr;refine⟨by omega,by omega,by omega,by omega,by omega,by omega,by omega,by omega,fun c hc=>?_,fun o ho=>?_,fun x hx=>?_⟩
 ·obtain⟨k,hk,rfl⟩:=gP hc;have:=h1 k (by omega);simp[DE,hk] at this;have:=k2' _ hc;exact⟨by omega,by omega,by omega,fun y hy=>this.2.2.2.1.2 y hy⟩
 ·obtain⟨k,hk,rfl⟩:=gP ho;have:=h2 k (by omega);simp[DF,hk] at this;omega
 ·have:=k7' x hx;exact⟨this.2.2.1,this.2.2.2.1⟩
def qM (r:Realm)(f:File):Bool:=(pG r&&DG f)&&eV r.orders.length (fun k=>qN (r.orders.getD k default))
theorem avf (r:Realm)(f:File)(hr:r.OK):ak T 24 [aQ r,bT f] (.bool (qM r f)):=by
 refine .of_tree rfl (lA 103 (by kernel_rfl)) ayY ?_;simp[W5];refine⟨_,auH r hr,?_⟩;cases e1:pG r
 ·simp[qM,e1]
 simp;refine⟨_,auY f,?_⟩;cases e2:DG f
 ·simp[qM,e1,e2]
 have hs:=PF hr e1;have ho:=hs.orders;have hf:qM r f=eV r.orders.length (fun k=>qN (r.orders.getD k default)):=by simp only[qM,e1,e2,yK]
 rw[hf];simp;have hO:=hr.2.2.2.2.1.2;refine gu r.orders.length (fun k=>qN (r.orders.getD k default)) (fun k=>[.bool false,.int k]) (fun _=>[]) ?_ (fun k hk ho=>?_) (fun k hk ho hb=>?_) (fun hj=>?_)
 ·simp
 ·have hw:=bk hk (by omega);simp[hk] at ho;simp[Ur,Gc,hk];refine⟨_,agN _ (hO _ (cv hk)),?_⟩;simp[ho,hw]
 ·simp only[bh] at hb;rw[hb];simp[hk] at ho;simp[Ur,Gc,hk];refine⟨_,agN _ (hO _ (cv hk)),?_⟩;simp[ho]
 ·simp only[bh] at hj;rw[hj];simp[Ur,Gc]
def Av (r:Realm)(f:File):Bool:=qM r f&&decide (dv r=0)
def lC (n:Int):Int:=min (max n (-1099511627776)) 1099511627776
theorem Nd (n:Int):ak T 222 [.int n] (.int (lC n)):=by
 refine .of_tree rfl (lA 38 (by kernel_rfl)) azO ?_;simp[XS,lC];by_cases h1:-1099511627776>n
 ·have:¬(1099511627776:Int)< -1099511627776:=by omega
  simp[h1];omega
 ·by_cases h2:(1099511627776:Int)<n
  ·simp[h1,h2];omega
  ·simp[h1,h2];omega
def j8 (v:Int):Int×Bool:=if v<0∨19<v then(0,false) else if v<7 then(0,true) else(1,true)
theorem ahT (v:Int):ak T 220 [.int v] (.tup [.int (j8 v).1,.bool (j8 v).2]):=by
 refine .of_tree rfl (lA 39 (by kernel_rfl)) azK ?_;simp[XO,j8];by_cases h1:v<0
 ·simp[h1]
 by_cases h2:19<v
 ·simp[h1,h2]
 by_cases h3:v<7
 ·simp[h1,h2,h3]
 ·simp[h1,h2,h3]
def rh (t:Tm):Int×Int:=
 if 0<t.args.length then(0,2) else if t.op=0 then(if lC t.n≠t.n then(0,3) else(0,0)) else if t.op=1 then(if t.n<0∨1<t.n then(0,3) else(1,0)) else if(j8 t.n).2=false then(0,10) else((j8 t.n).1,0)
theorem awK (t:Tm):ak T 218 [di t] (.tup [.int (rh t).1,.int (rh t).2]):=by
 refine .of_tree rfl (lA 37 (by kernel_rfl)) azP ?_;simp[XT,rh];by_cases h0:0<t.args.length
 ·have dY:(0:Int)<t.args.length:=by omega
  simp[h0,dY]
 simp[h0];by_cases h1:t.op=0
 ·simp[h1];refine⟨_,Nd _,?_⟩;by_cases h2:lC t.n=t.n<;>simp[h2]
 by_cases h2:t.op=1
 ·simp[h1,h2];by_cases h3:t.n<0<;>by_cases h4:1<t.n<;>simp[h3,h4]
 simp[h1,h2];refine⟨_,ahT _,?_⟩;cases h3:(j8 t.n).2<;>simp[h3]
def dB (op:Int):List Int×Int:=
 if op=3 then([1],1) else if op=4∨op=5 then([1,1],1) else if op=6 then([1,-1,-1],-1) else if op=7 then([0,0],1) else if op=8 then([-1,-1],1) else([0,0],0)
def DA (s:List Int×Int):D:=.agg [ints s.1,.int s.2]
@[simp] theorem aCS (s:List Int×Int):(DA s).cells=[ints s.1,.int s.2]:=_root_.id rfl
@[simp] theorem aCQ (s:List Int×Int):(DA s).c 0=ints s.1:=_root_.id rfl
@[simp] theorem aCR (s:List Int×Int):(DA s).c 1=.int s.2:=_root_.id rfl
@[simp] theorem aGs (s:List Int×Int):D.agg [ints s.1,.int s.2]=DA s:=_root_.id rfl
@[simp] theorem aHj (x y:Int):tT (.int x) 0 (.int y)=.int y:=_root_.id rfl
theorem awM (op:Int):ak T 219 [.int op] (DA (dB op)):=by
 refine .of_tree rfl (lA 40 (by kernel_rfl)) azT ?_;simp[XW,dB];by_cases h3:op=3
 ·simp[h3];rfl
 by_cases h4:op=4
 ·simp[h4];rfl
 by_cases h5:op=5
 ·simp[h5];rfl
 by_cases h6:op=6
 ·simp[h6];rfl
 by_cases h7:op=7
 ·simp[h7];rfl
 by_cases h8:op=8
 ·simp[h8];rfl
 simp[h3,h4,h5,h6,h7,h8];rfl
end Rm
namespace Rm
open Go Go.Proofs Cx
def cV (f:Tm→Int):List Tm→Int→Int
 |[],n=>n
 |a::l,n=>if 60<n+f a then n+f a else cV f l (n+f a)
def bu:Nat→Tm→Int
 |0,_=>61
 |L+1,t=>cV (bu L) t.args 1
def dQ (f:Tm→Int)(l:List Tm):Int:=(l.map f).sum
theorem K6 {f:Tm→Int}{l:List Tm}{k:Nat}(h:k<l.length):dQ f (l.take (k+1))=dQ f (l.take k)+f l[k]:=by
 unfold dQ;rw[B7 f h,List.sum_append];simp
theorem ada {f:Tm→Int}:∀{l:List Tm} {n:Int} {k:Nat},(hk:k<l.length)→(∀j,j<k→n+dQ f (l.take (j+1))≤60)→60<n+dQ f (l.take (k+1))→cV f l n=n+dQ f (l.take (k+1))
 |a::l,n,0,hk,_,h=>by
  simp[dQ] at h ⊢;unfold cV;rw[if_pos (by omega)]
 |a::l,n,k+1,hk,hj,h=>by
  have h0:=hj 0 (by omega);simp[dQ] at h0;unfold cV;rw[if_neg (by omega)];have e:∀j,n+dQ f ((a::l).take (j+1+1))=n+f a+dQ f (l.take (j+1)):=by intro j;simp[dQ];omega
  rw[ada (l:=l) (k:=k) (by simpa using hk) (fun j Kl=>by have:=hj (j+1) (by omega);rw[e] at this;exact this) (by rw[←e];exact h),e]
theorem ade {f:Tm→Int}:∀{l:List Tm} {n:Int},(∀j,j<l.length→n+dQ f (l.take (j+1))≤60)→cV f l n=n+dQ f l
 |[],n,_=>by simp[cV,dQ]
 |a::l,n,hj=>by
  have h0:=hj 0 (by simp);simp[dQ] at h0;unfold cV;rw[if_neg (by omega)];have e:∀j,n+dQ f ((a::l).take (j+1+1))=n+f a+dQ f (l.take (j+1)):=by intro j;simp[dQ];omega
  rw[ade (l:=l) (fun j jW=>by have:=hj (j+1) (by simpa using jW);rw[e] at this;exact this)];simp[dQ];omega
theorem adb {f:Tm→Int}(hf:∀a,1≤f a):∀{l:List Tm} {n:Int},n≤cV f l n
 |[],n=>by simp[cV]
 |a::l,n=>by
  unfold cV;have:=hf a;split
  ·omega
  ·have:=adb hf (l:=l) (n:=n+f a);omega
theorem ve:∀(L:Nat) (t:Tm),1≤bu L t
 |0,t=>by simp[bu]
 |L+1,t=>adb (ve L)
theorem adf {f:Tm→Int}{B:Int}(hf:∀a,f a≤B)(hB:0≤B):∀{l:List Tm} {n:Int},n≤60→cV f l n≤60+B
 |[],n,h=>by simp[cV];omega
 |a::l,n,h=>by
  unfold cV;have:=hf a;split
  ·omega
  ·exact adf hf hB (by omega)
theorem adh:∀(L:Nat) (t:Tm),bu L t≤61+60*L
 |0,t=>by simp[bu]
 |L+1,t=>by
  have:=adf (f:=bu L) (fun a=>adh L a) (by omega) (l:=t.args) (n:=1) (by omega);show cV _ _ _≤_;omega
theorem adg {f:Tm→Int}(hf:∀a,1≤f a):∀{l:List Tm} {n:Int},cV f l n≤60→(n:Int)+l.length≤60∧∀a,a∈l→f a≤60-n
 |[],n,h=>by simp[cV] at h ⊢;exact h
 |a::l,n,h=>by
  unfold cV at h;have:=hf a;split at h
  ·omega
  ·obtain⟨h1,h2⟩:=adg hf h;refine⟨by simp;omega,fun b hb=>?_⟩;rcases cW.1 hb with rfl|hb
   ·omega
   ·have:=h2 b hb;omega
theorem EU {L:Nat}{t:Tm}(h:bu (L+1) t≤60):t.args.length≤59∧∀a,a∈t.args→bu L a≤60:=by
 obtain⟨h1,h2⟩:=adg (ve L) h;exact⟨by omega,fun a ha=>by have:=h2 a ha;omega⟩
theorem Vc:∀(L:Nat) (t:Tm) (lv:Int),t.OK→L≤8→lv=9-(L:Int)→ak T 201 [di t,.int lv] (.int (bu L t))
 |0,t,lv,ht,hL,Qw=>by
  refine .of_tree rfl Zo ah0 ?_;subst Qw;simp[Nw,bu]
 |L+1,t,lv,ht,hL,Qw=>by
  refine .of_tree rfl Zo ah0 ?_;have hl:=ht.len;have h8:¬(8<lv):=by omega
  have xu:IntKind.i64.wrap (lv+1)=lv+1:=aJ (by omega);simp[Nw,h8];refine .scan t.args.length (fun k=>1+dQ (bu L) (t.args.take (k+1))≤60) (fun k=>[.int (1+dQ (bu L) (t.args.take k)),.int k]) (fun _=>[]) ?_ (fun k hk hj ho=>?_) (fun k hk hj ho=>?_) (fun hj=>?_)
  ·simp[dQ]
  all_goals try rw[K6 hk] at ho
  ·have hw:IntKind.i64.wrap ((k:Int)+1)=(k:Int)+1:=aJ (by omega);have fp:=Vc L t.args[k] (lv+1) (ht.arg (cv hk)) (by omega) (by omega);rw[K6 hk];have hs:0≤dQ (bu L) (t.args.take k):=by
    unfold dQ;have:∀(l:List Tm),0≤(l.map (bu L)).sum:=by
     intro l
     induction l with
     |nil=>simp
     |cons a l ih=>have:=ve L a;simp;omega
    exact this _
   have jU:=ve L t.args[k];generalize dQ (bu L) (t.args.take k)=m at*;generalize bu L t.args[k]=v at*;have sW:IntKind.i64.wrap (1+m+v)=1+m+v:=aJ (by omega);have jr:¬60<1+m+v:=by omega
   simp[UR,GC,hk,xu];refine⟨_,fp,?_⟩;simp[sW,jr,hw];omega
  ·have fp:=Vc L t.args[k] (lv+1) (ht.arg (cv hk)) (by omega) (by omega);have hf:bu (L+1) t=1+dQ (bu L) (t.args.take (k+1)):=ada hk hj (by rw[K6 hk];omega);rw[hf,K6 hk];have hs:0≤dQ (bu L) (t.args.take k)∧1+dQ (bu L) (t.args.take k)≤60:=by
    constructor
    ·unfold dQ;have:∀(l:List Tm),0≤(l.map (bu L)).sum:=by
       intro l
       induction l with
       |nil=>simp
       |cons a l ih=>have:=ve L a;simp;omega
     exact this _
    ·cases k with
     |zero=>simp[dQ]
     |succ k=>exact hj k (by omega)
   have jU:=ve L t.args[k];have ew:=adh L t.args[k];generalize dQ (bu L) (t.args.take k)=m at*;generalize bu L t.args[k]=v at*;have sW:IntKind.i64.wrap (1+m+v)=1+m+v:=aJ (by omega);have jr:60<1+m+v:=by omega
   simp[UR,GC,hk,xu];refine⟨_,fp,?_⟩;simp[sW,jr];omega
  ·have hf:bu (L+1) t=1+dQ (bu L) t.args:=ade hj;rw[hf];simp[UR,GC]
def nv (ws ts:List Int):Nat→Int
 |0=>-1
 |k+1=>if ws.getD k 0=-1∧nv ws ts k=-1 then ts.getD k 0 else nv ws ts k
def oz (ws ts:List Int)(k:Nat):Bool:=if ws.getD k 0=-1 then decide (nv ws ts k=-1)||decide (ts.getD k 0=nv ws ts k) else decide (ts.getD k 0=ws.getD k 0)
def rk (t:Tm)(ks:List Int):Int×Int:=
 if t.op<0∨13<t.op then(0,1) else if t.op=0∨t.op=1∨t.op=2 then rh t else
 if ks.length≠(dB t.op).1.length∨t.n≠0 then(0,2) else
 if eV (dB t.op).1.length (oz (dB t.op).1 ks)=false then(0,11) else if(dB t.op).2=-1 then(nv (dB t.op).1 ks (dB t.op).1.length,0) else((dB t.op).2,0)
def bC:Nat→Tm→Int×Int
 |0,_=>(0,0)
 |L+1,t=>if fP t.args.length (fun k=>(bC L (t.args.getD k default)).2)≠0 then(0,fP t.args.length (fun k=>(bC L (t.args.getD k default)).2)) else rk t (t.args.map fun a=>(bC L a).1)
theorem Dh (L:Nat)(t:Tm):bC (L+1) t=if fP t.args.length (fun k=>(bC L (t.args.getD k default)).2)≠0 then(0,fP t.args.length (fun k=>(bC L (t.args.getD k default)).2)) else rk t (t.args.map fun a=>(bC L a).1):=rfl
theorem U2 {α:Type}(A:List α)(z:α){k n:Nat}(hA:A.length=n)(hk:k<n):(A.take k++List.replicate (n-k) z).set k A[k]=A.take (k+1)++List.replicate (n-(k+1)) z:=by
 have h1:(A.take k).length=k:=by rw[eH];omega
 rw[List.set_append_right _ _ (by omega),h1,Hg];have:n-k=(n-(k+1))+1:=by omega
 rw[this,List.replicate_succ,List.set_cons_zero,jO (by omega),oY];rfl
theorem awp (op:Int):(dB op).1.length≤3:=by
 unfold dB;repeat' split
 all_goals simp
theorem Vb:∀(L:Nat) (t:Tm),t.OK→bu L t≤60→ak T 202 [di t] (.tup [.int (bC L t).1,.int (bC L t).2])
 |0,t,ht,hm=>by simp[bu] at hm
 |L+1,t,ht,hm=>by
  refine .of_tree rfl (lA 36 (by kernel_rfl)) azM ?_;obtain⟨hl,hp⟩:=EU hm;simp[XQ];refine⟨by omega,?_⟩;refine nL t.args.length (fun k=>(bC L (t.args.getD k default)).2) (fun k=>[.int 0,.int 0,.int k]) (fun k=>[ints ((t.args.map fun a=>(bC L a).1).take k++List.replicate (t.args.length-k) 0)]) ?_ (fun k hk ho=>?_) (fun k hk ho hb=>?_) (fun hj=>?_)
  ·simp[ints]
  ·have hw:=bk hk (by omega);have cJ:=cv hk;have fp:=Vb L t.args[k] (ht.arg cJ) (hp _ cJ);have hs:=U2 (t.args.map fun a=>(bC L a).1) 0 (n:=t.args.length) (by simp) hk;rw[←hs];have hlen:((t.args.map fun a=>(bC L a).1).take k++List.replicate (t.args.length-k) (0:Int)).length=t.args.length:=by simp;omega
   have D5:(t.args.map fun a=>(bC L a).1)[k]'(by simpa using hk)=(bC L t.args[k]).1:=by simp
   rw[D5];generalize (t.args.map fun a=>(bC L a).1).take k++List.replicate (t.args.length-k) (0:Int)=A at*;simp[hk] at ho;rw[ho] at fp;generalize (bC L t.args[k]).1=kd at*;simp[UP,GA,hk];refine⟨_,fp,?_⟩;simp[hlen,hk,hw,ints]
  ·have cJ:=cv hk;have fp:=Vb L t.args[k] (ht.arg cJ) (hp _ cJ);have hf:bC (L+1) t=(0,(bC L (t.args.getD k default)).2):=by
    rw[Dh,hb,if_pos ho]
   rw[hf];simp[hk] at ho ⊢;simp[UP,GA,hk];refine⟨_,fp,?_⟩;simp[ho]
  ·have hf:bC (L+1) t=rk t (t.args.map fun a=>(bC L a).1):=by
    rw[Dh,hj];simp
   rw[hf]
   have e0:(t.args.map fun a=>(bC L a).1).take t.args.length++List.replicate (t.args.length-t.args.length) 0=t.args.map fun a=>(bC L a).1:=by
    rw[Hg,Ct (by simp)];simp
   rw[e0];have hkl:(t.args.map fun a=>(bC L a).1).length=t.args.length:=by simp
   generalize (t.args.map fun a=>(bC L a).1)=ks at*;simp[UP,GA];unfold rk;by_cases h1:t.op<0
   ·simp[h1]
   by_cases h2:13<t.op
   ·simp[h1,h2]
   simp[h1,h2];by_cases h3:t.op=0∨t.op=1∨t.op=2
   ·have dO:(t.op=0∨t.op=1)∨t.op=2:=by omega
    simp[h3,dO];refine⟨_,awK t,?_⟩;simp
   have dO:¬((t.op=0∨t.op=1)∨t.op=2):=by omega
   simp[h3,dO];refine⟨_,awM _,?_⟩;have A8:=awp t.op;generalize dB t.op=sh at*;simp;by_cases h4:ks.length=sh.1.length
   case neg=>
    have km:¬((ks.length:Int)=sh.1.length):=by omega
    have JX:¬t.args.length=sh.1.length:=by omega
    simp[h4,km,JX]
   have km:(ks.length:Int)=sh.1.length:=by omega
   have JX:t.args.length=sh.1.length:=by omega
   by_cases h5:t.n=0
   case neg=>simp[h4,km,JX,h5]
   simp[h4,km,JX,h5];refine gu sh.1.length (oz sh.1 ks) (fun k=>[.int 0,.int 0,.int (nv sh.1 ks k),.int k]) (fun _=>[]) ?_ (fun k hk ho=>?_) (fun k hk ho hb=>?_) (fun hj=>?_)
   ·simp[nv]
   ·have hw:=bk hk (by omega);have cY:k<ks.length:=by omega
    simp only[nv];unfold oz at ho;simp only[bh,cl hk,cl cY,lx] at ho ⊢;generalize nv sh.1 ks k=c at*;by_cases a1:sh.1[k]=-1
    ·by_cases a2:c=-1
     ·simp[BW,vz,hk,cY,hw,ints,a1,a2]
     ·simp[a1,a2] at ho;simp[BW,vz,hk,cY,hw,ints,a1,a2,ho]
    ·simp[a1] at ho;simp[BW,vz,hk,cY,hw,ints,a1,ho]
   ·rw[hb];have cY:k<ks.length:=by omega
    unfold oz at ho;simp only[bh,cl hk,cl cY,lx] at ho;generalize nv sh.1 ks k=c at*;by_cases a1:sh.1[k]=-1
    ·by_cases a2:c=-1
     ·simp[a1,a2] at ho
     ·simp[a1,a2] at ho;simp[BW,vz,hk,cY,ints,a1,a2,ho]
    ·simp[a1] at ho;simp[BW,vz,hk,cY,ints,a1,ho]
   ·rw[hj];simp[BW,vz];by_cases a1:sh.2=-1<;>simp[a1]
def jR (t:Tm):Int×Int:=if 60<bu 8 t then(0,6) else bC 8 t
theorem ahS (t:Tm)(ht:t.OK):ak T 179 [di t] (.tup [.int (jR t).1,.int (jR t).2]):=by
 refine .of_tree rfl (lA 34 (by kernel_rfl)) azI ?_;simp[XM,jR];refine⟨_,Vc 8 t 1 ht (by omega) (by omega),?_⟩;by_cases h:60<bu 8 t
 ·simp[h]
 simp[h];refine⟨_,Vb 8 t ht (by omega),?_⟩;simp
end Rm
namespace Rm
open Go Go.Proofs Cx
abbrev u (n:Nat):D:=.v (.int .u64 n)
theorem aiY (n:Int):IntKind.u64.wrap n=n%18446744073709551616:=rfl
theorem G4 {n:Int}(h:0≤n∧n<18446744073709551616):IntKind.u64.wrap n=n:=by
 rw[aiY];omega
theorem yF {n:Nat}(h:n<18446744073709551616):IntKind.u64.wrap (n:Int)=n:=G4 (by omega)
theorem awq (a s:Nat)(h:s≤64):cX .shr .u64 a s=((a/2^s:Nat):Int):=by
 show Int.fdiv (a:Int) (2^(min (s:Int).toNat 64))=_;have:min (s:Int).toNat 64=s:=by simp;omega
 rw[this,aji _ (Int.le_of_lt (Int.pow_pos (by decide)))];rw[Int.natCast_ediv,Int.natCast_pow];rfl
theorem Od (a:Nat)(h:a<18446744073709551616):cX .and .u64 a 4294967295=((a%4294967296:Nat):Int):=by
 show IntKind.u64.wrap ((BitVec.ofInt 64 (a:Int)&&& BitVec.ofInt 64 4294967295).toNat:Nat)=_;have e:(BitVec.ofInt 64 (a:Int)&&& BitVec.ofInt 64 4294967295).toNat=a%4294967296:=by
  rw[BitVec.toNat_and];have e1:(BitVec.ofInt 64 (a:Int)).toNat=a:=by simp[BitVec.ofInt,BitVec.toNat_ofNat];omega
  have e2:(BitVec.ofInt 64 4294967295).toNat=2^32-1:=by decide
  rw[e1,e2,Nat.and_two_pow_sub_one_eq_mod]
 rw[e,yF (by omega)]
@[simp] theorem B2 (a:Nat):cX .shr .u64 a 32=((a/4294967296:Nat):Int):=awq a 32 (by decide)
set_option maxHeartbeats 2000000 in
theorem ate (a b:Nat)(ha:a<18446744073709551616)(hb:b<18446744073709551616):ak T 226 [u a,u b] (.tup [u (a*b/18446744073709551616),u (a*b%18446744073709551616)]):=by
 refine .of_tree rfl (lA 48 (by kernel_rfl)) aw1 ?_;obtain⟨h1,h2,h3,h4⟩:=Go.Lib.mul64_hi a b ha hb;have elo:IntKind.u64.wrap ((a:Int)*(b:Int))=((a*b%18446744073709551616:Nat):Int):=by rw[aiY,Int.natCast_emod,Int.natCast_mul];rfl
 have Pv:cX .shr .u64 (a:Int) 32=((a/4294967296:Nat):Int):=B2 a;have ea0:cX .and .u64 (a:Int) 4294967295=((a%4294967296:Nat):Int):=Od a ha;have Pw:cX .shr .u64 (b:Int) 32=((b/4294967296:Nat):Int):=B2 b;have eb0:cX .and .u64 (b:Int) 4294967295=((b%4294967296:Nat):Int):=Od b hb;have aFC:=Go.Lib.half_mul_le (a:=a/4294967296) (b:=b/4294967296) (by omega) (by omega);have aFB:=Go.Lib.half_mul_le (a:=a/4294967296) (b:=b%4294967296) (by omega) (by omega);have aFA:=Go.Lib.half_mul_le (a:=a%4294967296) (b:=b/4294967296) (by omega) (by omega);have aFz:=Go.Lib.half_mul_le (a:=a%4294967296) (b:=b%4294967296) (by omega) (by omega);have Qr:a*b/18446744073709551616<18446744073709551616:=by
  have:a*b<18446744073709551616*18446744073709551616:=Nat.mul_lt_mul'' ha hb;exact Nat.div_lt_of_lt_mul this
 simp only[Vp];generalize a/4294967296=a1 at*;generalize a%4294967296=a0 at*;generalize b/4294967296=b1 at*;generalize b%4294967296=b0 at*;have p11:IntKind.u64.wrap ((a1:Int)*(b1:Int))=((a1*b1:Nat):Int):=by rw[←Int.natCast_mul];exact yF (by omega)
 have p10:IntKind.u64.wrap ((a1:Int)*(b0:Int))=((a1*b0:Nat):Int):=by rw[←Int.natCast_mul];exact yF (by omega)
 have p01:IntKind.u64.wrap ((a0:Int)*(b1:Int))=((a0*b1:Nat):Int):=by rw[←Int.natCast_mul];exact yF (by omega)
 have p00:IntKind.u64.wrap ((a0:Int)*(b0:Int))=((a0*b0:Nat):Int):=by rw[←Int.natCast_mul];exact yF (by omega)
 rw[←h4] at Qr ⊢;generalize a1*b1=P at*;generalize a1*b0=Q at*;generalize a0*b1=R at*;generalize a0*b0=S at*;have s1:cX .shr .u64 (S:Int) 32=((S/4294967296:Nat):Int):=B2 S;have s2:IntKind.u64.wrap ((Q:Int)+((S/4294967296:Nat):Int))=((Q+S/4294967296:Nat):Int):=by rw[G4 (by omega)];omega
 generalize S/4294967296=S1 at*;generalize hT:Q+S1=TT at*;have s3:cX .shr .u64 (TT:Int) 32=((TT/4294967296:Nat):Int):=B2 TT;have s4:cX .and .u64 (TT:Int) 4294967295=((TT%4294967296:Nat):Int):=Od TT (by omega);have s5:IntKind.u64.wrap (((TT%4294967296:Nat):Int)+(R:Int))=((TT%4294967296+R:Nat):Int):=by rw[G4 (by omega)];omega
 generalize hU:TT%4294967296+R=U at*;have s6:cX .shr .u64 (U:Int) 32=((U/4294967296:Nat):Int):=B2 U;have s7:IntKind.u64.wrap ((P:Int)+((TT/4294967296:Nat):Int))=((P+TT/4294967296:Nat):Int):=by rw[G4 (by omega)];omega
 have s8:IntKind.u64.wrap (((P+TT/4294967296:Nat):Int)+((U/4294967296:Nat):Int))=((P+TT/4294967296+U/4294967296:Nat):Int):=by rw[G4 (by omega)];omega
 simp[-B2,-Int.natCast_add,-Int.natCast_mul,-Int.natCast_ediv,-Int.natCast_emod,elo,Pv,ea0,Pw,eb0,p11,p10,p01,p00,s1,s2,s3,s4,s5,s6,s7,s8]
def mF (m:Nat):Int:=if m<1099511627776 then m else 1099511627776
def qf (a b:Int):Int:=if(decide (a<0)!=decide (b<0))=true then-mF (a.natAbs*b.natAbs) else mF (a.natAbs*b.natAbs)
theorem afX (m:Nat):0≤mF m∧mF m≤1099511627776:=by unfold mF;split<;>omega
set_option maxHeartbeats 1000000 in
theorem awL (a b:Int)(ha:-1099511627776≤a∧a≤1099511627776)(hb:-1099511627776≤b∧b≤1099511627776):ak T 225 [.int a,.int b] (.int (qf a b)):=by
 refine .of_tree rfl (lA 47 (by kernel_rfl)) azS ?_;have wa:IntKind.u64.wrap (a.natAbs:Int)=a.natAbs:=yF (by omega);have wb:IntKind.u64.wrap (b.natAbs:Int)=b.natAbs:=yF (by omega);have w0a:IntKind.i64.wrap (0-a)=-a:=by rw[aJ (by omega)];omega
 have w0b:IntKind.i64.wrap (0-b)=-b:=by rw[aJ (by omega)];omega
 have aAg:IntKind.i64.wrap (-a)=-a:=aJ (by omega);have aAh:IntKind.i64.wrap (-b)=-b:=aJ (by omega);have ea:(if a< -a then D.int (-a) else D.int a)=D.int a.natAbs:=by split<;>congr 1<;>omega
 have eb:(if b< -b then D.int (-b) else D.int b)=D.int b.natAbs:=by split<;>congr 1<;>omega
 have ea':(if a< -a then-a else a)=(a.natAbs:Int):=by split<;>omega
 have eb':(if b< -b then-b else b)=(b.natAbs:Int):=by split<;>omega
 simp[XV,aAg,aAh,ea,eb,ea',eb'];rw[wa,wb];refine⟨_,ate a.natAbs b.natAbs (by omega) (by omega),?_⟩;unfold qf;generalize a.natAbs*b.natAbs=m;have hs:(decide (a<0)!=decide (b<0))=false↔(a<0↔b<0):=by
  by_cases h1:a<0<;>by_cases h2:b<0<;>simp[h1,h2]
 have key:((if((m/18446744073709551616:Nat):Int)=0∧((m%18446744073709551616:Nat):Int)<1099511627776 then IntKind.i64.wrap ((m%18446744073709551616:Nat):Int) else 1099511627776):Int)=mF m:=by
  unfold mF;by_cases hm:m<1099511627776
  ·have h1:m/18446744073709551616=0:=by omega
   have h2:m%18446744073709551616=m:=by omega
   rw[h1,h2,if_pos ⟨rfl,by omega⟩,if_pos hm,aJ (by omega)]
  ·rw[if_neg hm,if_neg];rintro⟨h1,h2⟩;omega
 have eu:=afX m;have aq6:(if((m/18446744073709551616:Nat):Int)=0∧((m%18446744073709551616:Nat):Int)<1099511627776 then D.int (IntKind.i64.wrap ((m%18446744073709551616:Nat):Int)) else D.int 1099511627776)=D.int (mF m):=by
  rw[←key];split<;>rfl
 show(if a<0↔b<0 then(if((m/18446744073709551616:Nat):Int)=0∧((m%18446744073709551616:Nat):Int)<1099511627776 then D.int (IntKind.i64.wrap ((m%18446744073709551616:Nat):Int)) else D.int 1099511627776)=_ else
  IntKind.i64.wrap (-(if((m/18446744073709551616:Nat):Int)=0∧((m%18446744073709551616:Nat):Int)<1099511627776 then IntKind.i64.wrap ((m%18446744073709551616:Nat):Int) else 1099511627776))=_)
 rw[aq6,key];generalize mF m=n at*;split
 ·rename_i h;rw[hs.2 h];simp
 ·rename_i h;have:(decide (a<0)!=decide (b<0))=true:=by
   cases e:(decide (a<0)!=decide (b<0)) with
   |true=>rfl
   |false=>exact absurd (hs.1 e) h
  rw[this,aJ (by omega)];simp
def sm (op a b:Int):Int:=if op=9 then lC (a+b) else if op=10 then lC (a-b) else if op=11 then qf a b else if op=12 then min a b else max a b
theorem awI (op a b:Int)(ha:-1099511627776≤a∧a≤1099511627776)(hb:-1099511627776≤b∧b≤1099511627776):ak T 223 [.int op,.int a,.int b] (.int (sm op a b)):=by
 refine .of_tree rfl (lA 46 (by kernel_rfl)) azL ?_;have w1:IntKind.i64.wrap (a+b)=a+b:=aJ (by omega);have w2:IntKind.i64.wrap (a-b)=a-b:=aJ (by omega);simp[XP,sm,w1,w2];by_cases h1:op=9
 ·simp[h1];exact Nd _
 by_cases h2:op=10
 ·simp[h1,h2];exact Nd _
 by_cases h3:op=11
 ·simp[h1,h2,h3];exact awL a b ha hb
 by_cases h4:op=12
 ·simp[h1,h2,h3,h4];by_cases h5:b<a<;>simp[h5]<;>omega
 simp[h1,h2,h3,h4];by_cases h5:b>a<;>simp[h5]<;>omega
def eU (b:Bool):Cell:=if b then⟨true,1⟩ else⟨true,0⟩
theorem vI (b:Bool):ak T 221 [.bool b] (cm (eU b)):=by
 refine .of_tree rfl (lA 44 (by kernel_rfl)) azU ?_;cases b<;>simp[XX,eU]<;>rfl
def cN:Cell:=⟨false,0⟩
@[simp] theorem aGw:D.agg [.bool false,.int 0]=cm cN:=_root_.id rfl
@[simp] theorem aGx:cN.known=false:=rfl
@[simp] theorem aGy:cN.n=0:=rfl
def cellAt (cs:List Cell)(v:Int):Cell:=cs.getD v.toNat default
def j7 (cs:List Cell)(v:Int):Cell:=if cs.length≤v.toNat∨(cellAt cs v).known=false then cN else if(j8 v).1=1 then eU (decide ((cellAt cs v).n≠0)) else⟨true,lC (cellAt cs v).n⟩
abbrev Py (cs:List Cell):D:=.agg [cells cs]
theorem awN (cs:List Cell)(v:Int)(hv:0≤v):ak T 203 [Py cs,.int v] (cm (j7 cs v)):=by
 refine .of_tree rfl (lA 43 (by kernel_rfl)) azR ?_;obtain⟨k,rfl⟩:=qy hv;simp[XU,j7,cellAt];by_cases h1:cs.length≤k
 ·simp[h1]
 have cu:k<cs.length:=by omega
 simp[h1,cu];cases h2:cs[k].known
 ·simp[h2]
 simp[h2];refine⟨_,ahT _,?_⟩;by_cases h3:(j8 k).1=1
 ·simp[h3,cu];refine⟨_,vI _,?_⟩;simp;rfl
 ·simp[h3,cu];refine⟨_,Nd _,?_⟩;simp;rfl
@[simp] theorem aFS (a b:Int):(a==b)=decide (a=b):=_root_.id rfl
@[simp] theorem aFT (a b:Int):(a !=b)= !decide (a=b):=_root_.id rfl
def bq (l:List Cell)(k:Nat):Cell:=l.getD k default
def ej (op:Int)(l:List Cell):Cell:=
 if op=3 then(if(bq l 0).known=true then eU (decide ((bq l 0).n=0)) else cN)
 else if(op=4∨op=5)∧(bq l 0=eU (decide (op=5))∨bq l 1=eU (decide (op=5))) then eU (decide (op=5))
 else if op=6 then(if(bq l 1).known=true∧bq l 1=bq l 2 then bq l 1 else cN)
 else if(bq l 0).known=false∨(bq l 1).known=false then cN
 else if op=4∨op=5 then eU (decide (op=4))
 else if op=7 then eU (decide ((bq l 0).n<(bq l 1).n)) else if op=8 then eU (decide ((bq l 0).n=(bq l 1).n)) else⟨true,sm op (bq l 0).n (bq l 1).n⟩
theorem Hv (a b:Cell):a=b↔a.known=b.known∧a.n=b.n:=by cases a;cases b;simp
theorem awJ (op:Int)(l:List Cell)(h1:1≤l.length)(h2:op≠3→2≤l.length)(h3:op=6→3≤l.length)
 (hb:9≤op→(-1099511627776≤(bq l 0).n∧(bq l 0).n≤1099511627776)∧(-1099511627776≤(bq l 1).n∧(bq l 1).n≤1099511627776)) (h9:op<3∨8<op→9≤op):
 ak T 204 [.int op,cells l] (cm (ej op l)):=by
 refine .of_tree rfl (lA 45 (by kernel_rfl)) azN ?_;have g0:0<l.length:=by omega
 have wQ:l[0]=bq l 0:=by simp[bq,g0]
 simp[XR];unfold ej;by_cases o3:op=3
 ·simp[o3,g0,wQ];cases e:(bq l 0).known
  ·simp
  ·simp[g0];refine⟨_,vI _,?_⟩;simp
 have g1:1<l.length:=by have:=h2 o3;omega
 have DM:l[1]=bq l 1:=by simp[bq,g1]
 have dI:(1:Int)<l.length:=by omega
 simp[o3];have fin:∀a b:Cell,(a=b)=(a.known=b.known∧a.n=b.n):=fun a b=>propext (Hv a b);rcases G9 (op=4) with o4|o4
 ·subst o4;simp;refine⟨_,vI _,?_⟩;simp[g0,g1,dI,wQ,DM,fin];split
  ·rfl
  ·split
   ·rfl
   ·refine⟨_,vI _,?_⟩;simp
 rcases G9 (op=5) with o5|o5
 ·subst o5;simp;refine⟨_,vI _,?_⟩;simp[g0,g1,dI,wQ,DM,fin];split
  ·rfl
  ·split
   ·rfl
   ·refine⟨_,vI _,?_⟩;simp
 rcases G9 (op=6) with o6|o6
 ·subst o6;have g2:2<l.length:=by have:=h3 rfl;omega
  have gg2:l[2]=bq l 2:=by simp[bq,g2]
  have kN:(2:Int)<l.length:=by omega
  simp[g1,g2,dI,kN,DM,gg2,fin];cases e1:(bq l 1).known
  ·simp
  by_cases e2:(bq l 1).known=(bq l 2).known∧(bq l 1).n=(bq l 2).n
  ·rw[e1] at e2;simp[e1,e2]
  ·rw[e1] at e2;have uq:¬((bq l 2).known=true∧(bq l 1).n=(bq l 2).n):=fun h=>e2 ⟨h.1.symm,h.2⟩;simp only[e1,true_and,if_true]
   first|(rw[if_neg uq,if_neg uq])|(simp[uq])
 simp[o4,o5,o6,g0,g1,dI,wQ,DM];cases e1:(bq l 0).known
 ·simp
 cases e2:(bq l 1).known
 ·simp
 simp[g1,dI,DM];rcases G9 (op=7) with o7|o7
 ·subst o7;simp;refine⟨_,vI _,?_⟩;simp
 rcases G9 (op=8) with o8|o8
 ·subst o8;simp;refine⟨_,vI _,?_⟩;simp
 simp[o7,o8];obtain⟨b1,b2⟩:=hb (h9 (by omega));refine⟨_,awI op _ _ b1 b2,?_⟩;simp;rfl
end Rm
namespace Rm
open Go Go.Proofs Cx
def bm:Nat→List Cell→Tm→Cell
 |0,_,_=>cN
 |L+1,cs,t=>if t.op=0∨t.op=1 then⟨true,t.n⟩ else if t.op=2 then j7 cs t.n else
   if t.op=6∧(bq (t.args.map (bm L cs)) 0).known=true then bq (t.args.map (bm L cs)) (2-(bq (t.args.map (bm L cs)) 0).n).toNat else ej t.op (t.args.map (bm L cs))
def eE:Nat→List Cell→Tm→List Int
 |0,_,_=>[]
 |L+1,cs,t=>if t.op=0∨t.op=1 then[] else if t.op=2 then(if(j7 cs t.n).known=true then[] else[t.n]) else
   if t.op=6∧(bq (t.args.map (bm L cs)) 0).known=true then(t.args.map (eE L cs)).getD (2-(bq (t.args.map (bm L cs)) 0).n).toNat [] else
   if(ej t.op (t.args.map (bm L cs))).known=true then[] else(t.args.map (eE L cs)).flatten
theorem wN (L:Nat)(cs:List Cell)(t:Tm):bm (L+1) cs t=if t.op=0∨t.op=1 then⟨true,t.n⟩ else if t.op=2 then j7 cs t.n else
 if t.op=6∧(bq (t.args.map (bm L cs)) 0).known=true then bq (t.args.map (bm L cs)) (2-(bq (t.args.map (bm L cs)) 0).n).toNat else ej t.op (t.args.map (bm L cs)):=rfl
theorem K9 (L:Nat)(cs:List Cell)(t:Tm):eE (L+1) cs t=if t.op=0∨t.op=1 then[] else if t.op=2 then(if(j7 cs t.n).known=true then[] else[t.n]) else
 if t.op=6∧(bq (t.args.map (bm L cs)) 0).known=true then(t.args.map (eE L cs)).getD (2-(bq (t.args.map (bm L cs)) 0).n).toNat [] else
 if(ej t.op (t.args.map (bm L cs))).known=true then[] else(t.args.map (eE L cs)).flatten:=rfl
theorem JA {L:Nat}{t:Tm}{k:Int}(h:bC (L+1) t=(k,0)):(∀a,a∈t.args→(bC L a).2=0)∧rk t (t.args.map fun a=>(bC L a).1)=(k,0):=by
 rw[Dh] at h;by_cases e:fP t.args.length (fun k=>(bC L (t.args.getD k default)).2)=0
 ·rw[if_neg (by simpa using e)] at h;refine⟨fun a ha=>?_,h⟩;obtain⟨j,hj,rfl⟩:=gP ha;have:=JN.1 e j hj;simpa [hj] using this
 ·rw[if_pos e] at h;injection h with _ h
  exact absurd h e
inductive Node (ks:List Int) (t:Tm):Int→Prop where
 |int (h:t.op=0) (ha:t.args=[]) (hn:-1099511627776≤t.n∧t.n≤1099511627776):Node ks t 0
 |bool (h:t.op=1) (ha:t.args=[]) (hn:t.n=0∨t.n=1):Node ks t 1
 |var (h:t.op=2) (ha:t.args=[]) (hn:0≤t.n∧t.n≤19):Node ks t (j8 t.n).1
 |not (h:t.op=3) (hk:ks=[1]):Node ks t 1
 |log (h:t.op=4∨t.op=5) (hk:ks=[1,1]):Node ks t 1
 |ite (k:Int) (h:t.op=6) (hk:ks=[1,k,k]):Node ks t k
 |less (h:t.op=7) (hk:ks=[0,0]):Node ks t 1
 |equal (k:Int) (h:t.op=8) (hk:ks=[k,k]):Node ks t 1
 |num (h:9≤t.op∧t.op≤13) (hk:ks=[0,0]):Node ks t 0
theorem aiV (v:Int):(j8 v).1=0∨(j8 v).1=1:=by
 unfold j8;repeat' split
 all_goals simp
theorem atw {t:Tm}{ks:List Int}{k:Int}(hl:ks.length=t.args.length)(dx:∀x,x∈ks→x=0∨x=1)(h:rk t ks=(k,0)):Node ks t k:=by
 unfold rk at h;split at h
 ·injection h with _ h;cases h
 rename_i dp;split at h
 ·rename_i h3;unfold rh at h;split at h
  ·injection h with _ h;cases h
  rename_i ha0;have ha:t.args=[]:=YJ (by omega);split at h
  ·rename_i h0;split at h
   ·injection h with _ h;cases h
   ·rename_i hc;injection h with h _
    subst h;refine .int h0 ha ?_;unfold lC at hc;omega
  split at h
  ·rename_i h0;split at h
   ·injection h with _ h;cases h
   ·rename_i hc;injection h with h _
    subst h;exact .bool h0 ha (by omega)
  split at h
  ·injection h with _ h;cases h
  ·rename_i g0 g1 hc;injection h with h _
   subst h;refine .var (by omega) ha ?_;unfold j8 at hc;split at hc
   ·simp at hc
   ·omega
 rename_i h3;split at h
 ·injection h with _ h;cases h
 rename_i hlen;have om:ks.length=(dB t.op).1.length:=by
  refine Cj fun hh=>hlen (.inl hh)
 split at h
 ·injection h with _ h;cases h
 rename_i aB;have jZ:∀j,j<(dB t.op).1.length→oz (dB t.op).1 ks j=true:=we.1 (by simpa using aB)
 have two:∀{n:Nat},ks.length=2→∃a b,ks=[a,b]:=fun h=>by
  match ks,h with
  |[a,b],_=>exact⟨a,b,rfl⟩
 by_cases o3:t.op=3
 ·have e:dB t.op=([1],1):=by simp[dB,o3]
  rw[e] at om jZ h
  match ks,om with
  |[a],_=>
   have:=jZ 0 (by simp);simp[oz] at this;simp at h;subst h this;exact .not o3 rfl
 by_cases Bp:t.op=4∨t.op=5
 ·have e:dB t.op=([1,1],1):=by simp[dB,o3,Bp]
  rw[e] at om jZ h
  match ks,om with
  |[a,b],_=>
   have t1:=jZ 0 (by simp);have t2:=jZ 1 (by simp);simp[oz] at t1 t2;simp at h;subst h t1 t2;exact .log Bp rfl
 by_cases o6:t.op=6
 ·have e:dB t.op=([1,-1,-1],-1):=by simp[dB,o6]
  rw[e] at om jZ h
  match ks,om,dx with
  |[a,b,c],_,dx=>
   have t1:=jZ 0 (by simp);have t3:=jZ 2 (by simp);have hb:=dx b (by simp);have qQ:¬b=-1:=by omega
   simp[oz] at t1;simp[oz,nv,qQ] at t3;simp[nv,qQ] at h;subst h t1 t3;exact .ite _ o6 rfl
 by_cases o7:t.op=7
 ·have e:dB t.op=([0,0],1):=by simp[dB,o7]
  rw[e] at om jZ h
  match ks,om with
  |[a,b],_=>
   have t1:=jZ 0 (by simp);have t2:=jZ 1 (by simp);simp[oz] at t1 t2;simp at h;subst h t1 t2;exact .less o7 rfl
 by_cases o8:t.op=8
 ·have e:dB t.op=([-1,-1],1):=by simp[dB,o8]
  rw[e] at om jZ h
  match ks,om,dx with
  |[a,b],_,dx=>
   have t2:=jZ 1 (by simp);have ha:=dx a (by simp);have han:¬a=-1:=by omega
   simp[oz,nv,han] at t2;simp at h;subst h t2;exact .equal _ o8 rfl
 have e:dB t.op=([0,0],0):=by simp[dB,o3,Bp,o6,o7,o8]
 rw[e] at om jZ h
 match ks,om with
 |[a,b],_=>
  have t1:=jZ 0 (by simp);have t2:=jZ 1 (by simp);simp[oz] at t1 t2;simp at h;subst h t1 t2;exact .num (by omega) rfl
theorem Di:∀{L:Nat} {t:Tm} {k:Int},bC (L+1) t=(k,0)→Node (t.args.map fun a=>(bC L a).1) t k∧(k=0∨k=1)
 |L,t,k,h=>by
  obtain⟨h1,h2⟩:=JA h
  have dx:∀x,x∈(t.args.map fun a=>(bC L a).1)→x=0∨x=1:=by
   intro x hx;obtain⟨a,ha,rfl⟩:=dH.1 hx;cases L with
   |zero=>exact .inl rfl
   |succ L=>exact(Di (L:=L) (t:=a) (k:=(bC (L+1) a).1) (by rw[←h1 a ha])).2
  have hn:=atw (by simp) dx h2;refine⟨hn,?_⟩;cases hn with
  |int=>simp
  |bool=>simp
  |var=>exact aiV _
  |not=>simp
  |log=>simp
  |ite k _ hk=>exact dx k (by rw[hk];simp)
  |less=>simp
  |equal=>simp
  |num=>simp
end Rm
namespace Rm
open Go Go.Proofs Cx
def qD (k:Int)(c:Cell):Prop:=(c.known=false→c=cN)∧(c.known=true→(k=1→c.n=0∨c.n=1)∧(k=0→-1099511627776≤c.n∧c.n≤1099511627776))
theorem vB (k:Int):qD k cN:=⟨fun _=>rfl,fun h=>by cases h⟩
theorem B0 (b:Bool):qD 1 (eU b):=⟨fun h=>(by cases b<;>cases h),fun _=>⟨fun _=>(by cases b<;>simp[eU]),fun h=>by cases h⟩⟩
theorem Pp (n:Int):-1099511627776≤lC n∧lC n≤1099511627776:=by unfold lC;omega
theorem avV (cs:List Cell)(v:Int)(hv:0≤v∧v≤19):qD (j8 v).1 (j7 cs v):=by
 unfold j7;split
 ·exact vB _
 ·split
  ·rename_i h;rw[h];exact B0 _
  ·rename_i h;refine⟨fun h=>(by cases h),fun _=>⟨fun h'=>absurd h' h,fun _=>Pp _⟩⟩
theorem auw (a b:Int):-1099511627776≤qf a b∧qf a b≤1099511627776:=by
 unfold qf;have:=afX (a.natAbs*b.natAbs);split<;>omega
theorem ajM (op a b:Int)(ha:-1099511627776≤a∧a≤1099511627776)(hb:-1099511627776≤b∧b≤1099511627776):-1099511627776≤sm op a b∧sm op a b≤1099511627776:=by
 unfold sm;split
 ·exact Pp _
 split
 ·exact Pp _
 split
 ·exact auw _ _
 split<;>omega
theorem ac2 {α β:Type}{f:α→β}{l:List α}{x:β}(h:l.map f=[x]):∃a,l=[a]∧f a=x:=by
 match l,h with
 |[a],h=>exact⟨a,rfl,by simpa using h⟩
theorem vc {α β:Type}{f:α→β}{l:List α}{x y:β}(h:l.map f=[x,y]):∃a b,l=[a,b]∧f a=x∧f b=y:=by
 match l,h with
 |[a,b],h=>exact⟨a,b,rfl,by simpa using h⟩
theorem KX {α β:Type}{f:α→β}{l:List α}{x y z:β}(h:l.map f=[x,y,z]):∃a b c,l=[a,b,c]∧f a=x∧f b=y∧f c=z:=by
 match l,h with
 |[a,b,c],h=>exact⟨a,b,c,rfl,by simpa using h⟩
theorem PD:∀{L:Nat} {t:Tm} {k:Int} (cs:List Cell),bC L t=(k,0)→qD k (bm L cs t)
 |0,t,k,cs,h=>vB _
 |L+1,t,k,cs,h=>by
  obtain⟨hn,hk⟩:=Di h;obtain⟨ha,_⟩:=JA h;have ih:∀a,a∈t.args→qD (bC L a).1 (bm L cs a):=fun a hm=>PD cs (show bC L a=((bC L a).1,0) by rw[←ha a hm]);rw[wN];cases hn with
  |int h0 ha hn=>rw[if_pos (.inl h0)];exact⟨fun h=>(by cases h),fun _=>⟨fun h=>(by cases h),fun _=>hn⟩⟩
  |bool h0 ha hn=>rw[if_pos (.inr h0)];exact⟨fun h=>(by cases h),fun _=>⟨fun _=>hn,fun h=>by cases h⟩⟩
  |var h0 ha hn=>rw[if_neg (by omega),if_pos h0];exact avV cs _ hn
  |not h0 hk=>
   rw[if_neg (by omega),if_neg (by omega),if_neg (by omega)];unfold ej;rw[if_pos h0];split
   ·exact B0 _
   ·exact vB _
  |log h0 hk=>
   rw[if_neg (by omega),if_neg (by omega),if_neg (by omega)];unfold ej;rw[if_neg (by omega)];split
   ·exact B0 _
   rw[if_neg (by omega)];split
   ·exact vB _
   exact B0 _
  |ite k h0 cY=>
   obtain⟨a,b,c,hl,e1,e2,e3⟩:=KX cY;rw[hl] at ih ⊢;have r1:=ih a (by simp);have r2:=ih b (by simp);have r3:=ih c (by simp);rw[e1] at r1;rw[e2] at r2;rw[e3] at r3;rw[if_neg (by omega),if_neg (by omega)];simp only[jN,Cr,bq,vW];split
   ·rename_i hh;rcases(r1.2 hh.2).1 rfl with h1|h1<;>rw[h1]
    ·exact r3
    ·exact r2
   ·unfold ej;rw[if_neg (by omega),if_neg (by omega),if_pos h0];simp only[bq,vW,Hb];split
    ·exact r2
    ·exact vB _
  |less h0 hk=>
   rw[if_neg (by omega),if_neg (by omega),if_neg (by omega)];unfold ej;rw[if_neg (by omega),if_neg (by omega),if_neg (by omega)];split
   ·exact vB _
   repeat' split
   all_goals exact B0 _
  |equal k h0 hk=>
   rw[if_neg (by omega),if_neg (by omega),if_neg (by omega)];unfold ej;rw[if_neg (by omega),if_neg (by omega),if_neg (by omega)];split
   ·exact vB _
   repeat' split
   all_goals exact B0 _
  |num h0 cY=>
   obtain⟨a,b,hl,e1,e2⟩:=vc cY;rw[hl] at ih ⊢;have r1:=ih a (by simp);have r2:=ih b (by simp);rw[e1] at r1;rw[e2] at r2;rw[if_neg (by omega),if_neg (by omega),if_neg (by omega)];unfold ej;rw[if_neg (by omega),if_neg (by omega),if_neg (by omega)];simp only[jN,Cr,bq,vW,Hb];split
   ·exact vB _
   rename_i Ec;rw[if_neg (by omega),if_neg (by omega),if_neg (by omega)];have k1:(bm L cs a).known=true:=by
    cases e:(bm L cs a).known with
    |true=>rfl
    |false=>exact absurd (.inl e) Ec
   have k2:(bm L cs b).known=true:=by
    cases e:(bm L cs b).known with
    |true=>rfl
    |false=>exact absurd (.inr e) Ec
   exact⟨fun h=>(by cases h),fun _=>⟨fun h=>(by cases h),fun _=>ajM _ _ _ ((r1.2 k1).2 rfl) ((r2.2 k2).2 rfl)⟩⟩
theorem adu:∀(L:Nat) (cs:List Cell) (t:Tm),bu L t≤60→((eE L cs t).length:Int)≤bu L t
 |0,cs,t,h=>by simp[bu] at h
 |L+1,cs,t,h=>by
  have h1:=ve (L+1) t;obtain⟨hl,hp⟩:=EU h;have hs:∀(l:List Tm) (n:Int),(∀a,a∈l→bu L a≤60)→cV (bu L) l n≤60→((l.map (eE L cs)).flatten.length:Int)+n≤cV (bu L) l n∧∀j,(((l.map (eE L cs)).getD j []).length:Int)+n≤cV (bu L) l n:=by
   intro l
   induction l with
   |nil=>intro n _ _;simp[cV]
   |cons a l ih=>
    intro n hp hm;have ha:=adu L cs a (hp a (by simp));unfold cV at hm ⊢;split at hm
    ·omega
    ·rename_i h60;rw[if_neg h60];obtain⟨i1,i2⟩:=ih (n+bu L a) (fun b hb=>hp b (by simp[hb])) hm;refine⟨by rw[jN,YL,l6];omega,fun j=>?_⟩;cases j with
     |zero=>simp;omega
     |succ j=>have:=i2 j;simp at this ⊢;omega
  obtain⟨hs1,eY⟩:=hs t.args 1 hp h;rw[K9];split
  ·simp;omega
  split
  ·split<;>simp<;>omega
  split
  ·have:=eY (2-(bq (t.args.map (bm L cs)) 0).n).toNat;show _≤cV _ _ _;omega
  split
  ·simp;omega
  ·show _≤cV _ _ _;omega
@[simp] theorem aHk (x y:List Int):tT (ints x) 0 (ints y)=ints y:=_root_.id rfl
@[simp] theorem awy (x y:Cell):tT (cm x) 0 (cm y)=cm y:=_root_.id rfl
@[simp] theorem aFU (a b:List Int):D.list (a.map D.int++b.map D.int)=ints (a++b):=by simp[ints]
def lists (l:List (List Int)):D:=.list (l.map ints)
@[simp] theorem aF7 (l:List (List Int)):(lists l).l=l.map ints:=_root_.id rfl
theorem ai4 (l:List (List Int))(hl:l.length≤1000)(hs:l.flatten.length≤1000000):ak T 205 [lists l] (ints l.flatten):=by
 refine .of_tree rfl (lA 49 (by kernel_rfl)) azs ?_;simp[Xv];have hb:∀k,(l.take k).flatten.length≤l.flatten.length:=by
  intro k
  conv=>rhs;rw[←N4 k l]
  rw[List.flatten_append,l6];omega
 have bI:∀k (hk:k<l.length),(l.take (k+1)).flatten=(l.take k).flatten++l[k]:=fun k hk=>by
  rw[jO hk,List.flatten_append];simp
 refine aL.forRounds l.length (fun k=>[.int ((l.take k).flatten.length:Nat),.int k]) (fun k=>[]) ?_ (fun k hk=>?_) ?_
 ·simp
 ·have hw:=bk hk (by omega);have h1:=bI k hk;have h2:=hb (k+1);rw[h1] at h2 ⊢;rw[l6] at h2 ⊢;generalize (l.take k).flatten.length=m at*;have sW:IntKind.i64.wrap ((m:Int)+(l[k].length:Int))=(m:Int)+l[k].length:=aJ (by omega);have pV:¬((m:Int)+l[k].length<0):=by omega
  simp[ahh,MI,hk,hw,sW,pV]
 ·simp[ahh,MI];have abr:ak T 224 [.list [],.int (l.flatten.length:Nat)] (.list []):=by
   refine .of_ext (g:=fun _ ds=>JQ ds) rfl ⟨0,fun _ _=>?_⟩;show(if(0:Int)≤(l.flatten.length:Nat)∧((l.flatten.length:Nat):Int)≤4294967296 then some (D.list []) else none)=some (D.list []);rw[if_pos (by omega)]
  rw[List.length_flatten] at abr;refine⟨_,abr,?_⟩;refine aL.forRounds l.length (fun k=>[.none,.int k]) (fun k=>[ints (l.take k).flatten]) ?_ (fun k hk=>?_) ?_
  ·simp[ints]
  ·have hw:=bk hk (by omega);have h1:=bI k hk;have h2:=hb (k+1);rw[h1] at h2 ⊢;rw[l6] at h2;generalize (l.take k).flatten=m at*;simp[ahi,MJ,hk,hw];omega
  ·simp[ahi,MJ]
theorem akP {op:Int}{l:List Cell}(h:(ej op l).known=false):ej op l=cN:=by
 have hy:∀b,(eU b).known=true:=fun b=>by cases b<;>simp[eU]
 unfold ej at h ⊢;split<;>rename_i c1
 ·rw[if_pos c1] at h;split<;>rename_i c2
  ·rw[if_pos c2,hy] at h;cases h
  ·rfl
 rw[if_neg c1] at h;split<;>rename_i c2
 ·rw[if_pos c2,hy] at h;cases h
 rw[if_neg c2] at h;split<;>rename_i c3
 ·rw[if_pos c3] at h;split<;>rename_i c4
  ·rw[if_pos c4,c4.1] at h;cases h
  ·rfl
 rw[if_neg c3] at h;split<;>rename_i c4
 ·rfl
 rw[if_neg c4] at h
 repeat' split at h
 all_goals first|(rw[hy] at h;cases h)|cases h
theorem ahU:∀(L:Nat) (cs:List Cell) (t:Tm) (k:Int),t.OK→bu L t≤60→bC L t=(k,0)→ak T 180 [Py cs,di t] (.tup [cm (bm L cs t),ints (eE L cs t)])
 |0,cs,t,k,ht,hm,hc=>by simp[bu] at hm
 |L+1,cs,t,k,ht,hm,hc=>by
  refine .of_tree rfl (lA 42 (by kernel_rfl)) azQ ?_;obtain⟨hl,hp⟩:=EU hm;obtain⟨ha,_⟩:=JA hc;obtain⟨hn,ape⟩:=Di hc;have fp:∀a,a∈t.args→ak T 180 [Py cs,di a] (.tup [cm (bm L cs a),ints (eE L cs a)]):=fun a cI=>ahU L cs a (bC L a).1 (ht.arg cI) (hp a cI) (by rw[←ha a cI]);have kq:∀a,a∈t.args→qD (bC L a).1 (bm L cs a):=fun a cI=>PD cs (show bC L a=((bC L a).1,0) by rw[←ha a cI]);have QF:∀a,a∈t.args→(eE L cs a).length≤60:=fun a cI=>by have:=adu L cs a (hp a cI);have:=hp a cI;omega
  by_cases dx:t.op=0∨t.op=1
  ·
   have e1:bm (L+1) cs t=⟨true,t.n⟩:=by rw[wN,if_pos dx]
   have e2:eE (L+1) cs t=[]:=by rw[K9,if_pos dx]
   rw[e1,e2];rcases dx with h|h<;>simp[G2,h]<;>exact⟨rfl,rfl⟩
  have o0:t.op≠0:=fun h=>dx (.inl h);have o1:t.op≠1:=fun h=>dx (.inr h);by_cases o2:t.op=2
  ·have hv:0≤t.n:=by
    cases hn with
    |var h0 ha hn=>exact hn.1
    |_=>omega
   have e1:bm (L+1) cs t=j7 cs t.n:=by rw[wN,if_neg dx,if_pos o2]
   have e2:eE (L+1) cs t=if(j7 cs t.n).known=true then[] else[t.n]:=by rw[K9,if_neg dx,if_pos o2]
   rw[e1,e2];simp[G2,o2];refine⟨_,awN cs t.n hv,?_⟩;cases e:(j7 cs t.n).known
   ·have:j7 cs t.n=cN:=by
     unfold j7 at e ⊢;split
     ·rfl
     ·rename_i h;rw[if_neg h] at e;split at e
      ·cases hb:decide ((cellAt cs t.n).n≠0)<;>rw[hb] at e<;>cases e
      ·cases e
    rw[this];simp[ints]
   ·have h:j7 cs t.n=⟨true,(j7 cs t.n).n⟩:=by rw[←e]
    rw[h];simp[ints]
    try rfl
  have hlen:1≤t.args.length∧(t.op≠3→2≤t.args.length)∧(t.op=6→3≤t.args.length):=by
   cases hn with
   |int h0 ha hn=>omega
   |bool h0 ha hn=>omega
   |var h0 ha hn=>omega
   |not h0 hk=>obtain⟨a,hl,_⟩:=ac2 hk;rw[hl];simp;omega
   |log h0 hk=>obtain⟨a,b,hl,_⟩:=vc hk;rw[hl];simp;omega
   |ite k h0 hk=>obtain⟨a,b,c,hl,_⟩:=KX hk;rw[hl];simp
   |less h0 hk=>obtain⟨a,b,hl,_⟩:=vc hk;rw[hl];simp;omega
   |equal k h0 hk=>obtain⟨a,b,hl,_⟩:=vc hk;rw[hl];simp;omega
   |num h0 hk=>obtain⟨a,b,hl,_⟩:=vc hk;rw[hl];simp;omega
  have hb9:9≤t.op→(-1099511627776≤(bq (t.args.map (bm L cs)) 0).n∧(bq (t.args.map (bm L cs)) 0).n≤1099511627776)∧(-1099511627776≤(bq (t.args.map (bm L cs)) 1).n∧(bq (t.args.map (bm L cs)) 1).n≤1099511627776):=by
   intro h9;have rb:∀c:Cell,qD 0 c→-1099511627776≤c.n∧c.n≤1099511627776:=by
    intro c hr;cases e:c.known with
    |false=>rw[hr.1 e];simp
    |true=>exact(hr.2 e).2 rfl
   cases hn with
   |num h0 hk=>
    obtain⟨a,b,hl,ea,eb⟩:=vc hk;rw[hl] at kq ⊢;have r1:=kq a (by simp);have r2:=kq b (by simp);rw[ea] at r1;rw[eb] at r2;exact⟨rb _ r1,rb _ r2⟩
   |log h0 hk=>omega
   |_=>omega
  have h6:t.op=6→(bq (t.args.map (bm L cs)) 0).known=true→(bq (t.args.map (bm L cs)) 0).n=0∨(bq (t.args.map (bm L cs)) 0).n=1:=by
   intro o6 Ec;cases hn with
   |ite k h0 hk=>
    obtain⟨a,b,c,hl,ea,_⟩:=KX hk;rw[hl] at kq Ec ⊢;have r1:=kq a (by simp);rw[ea] at r1;exact(r1.2 Ec).1 rfl
   |log h0 hk=>omega
   |num h0 hk=>omega
   |_=>omega
  have dp:t.op<3∨8<t.op→9≤t.op:=by
   cases hn with
   |log h0 hk=>omega
   |num h0 hk=>omega
   |_=>omega
  have e1:bm (L+1) cs t=if t.op=6∧(bq (t.args.map (bm L cs)) 0).known=true then bq (t.args.map (bm L cs)) (2-(bq (t.args.map (bm L cs)) 0).n).toNat else ej t.op (t.args.map (bm L cs)):=by
   rw[wN,if_neg dx,if_neg o2]
  have e2:eE (L+1) cs t=if t.op=6∧(bq (t.args.map (bm L cs)) 0).known=true then(t.args.map (eE L cs)).getD (2-(bq (t.args.map (bm L cs)) 0).n).toNat [] else if(ej t.op (t.args.map (bm L cs))).known=true then[] else(t.args.map (eE L cs)).flatten:=by
   rw[K9,if_neg dx,if_neg o2]
  rw[e1,e2];simp[G2,o0,o1,o2];refine⟨by omega,?_⟩;refine aL.forRounds t.args.length (fun k=>[.int k]) (fun k=>[cells ((t.args.map (bm L cs)).take k++List.replicate (t.args.length-k) cN),lists ((t.args.map (eE L cs)).take k++List.replicate (t.args.length-k) [])]) ?_ (fun k hk=>?_) ?_
  ·simp[cells,lists,ints]
  ·have hw:=bk hk (by omega);have cJ:=cv hk;have hr:=fp _ cJ;have s1:=U2 (t.args.map (bm L cs)) cN (n:=t.args.length) (by simp) hk;have s2:=U2 (t.args.map (eE L cs)) [] (n:=t.args.length) (by simp) hk;rw[←s1,←s2];have l1:((t.args.map (bm L cs)).take k++List.replicate (t.args.length-k) cN).length=t.args.length:=by simp;omega
   have l2:((t.args.map (eE L cs)).take k++List.replicate (t.args.length-k) []).length=t.args.length:=by simp;omega
   have g1:(t.args.map (bm L cs))[k]'(by simpa using hk)=bm L cs t.args[k]:=by simp
   have g2:(t.args.map (eE L cs))[k]'(by simpa using hk)=eE L cs t.args[k]:=by simp
   rw[g1,g2];generalize (t.args.map (bm L cs)).take k++List.replicate (t.args.length-k) cN=A at*;generalize (t.args.map (eE L cs)).take k++List.replicate (t.args.length-k) []=B at*;generalize bm L cs t.args[k]=c at*;generalize eE L cs t.args[k]=d at*;simp[UQ,GB,hk];refine⟨_,hr,?_⟩;simp[hw,hk,l1,l2,cells,lists]
  ·have hA:(t.args.map (bm L cs)).take t.args.length++List.replicate (t.args.length-t.args.length) cN=t.args.map (bm L cs):=by rw[Hg,List.replicate_zero,rW,Ct (by simp)]
   have hB:(t.args.map (eE L cs)).take t.args.length++List.replicate (t.args.length-t.args.length) []=t.args.map (eE L cs):=by rw[Hg,List.replicate_zero,rW,Ct (by simp)]
   have lA:(t.args.map (bm L cs)).length=t.args.length:=by simp
   have lB:(t.args.map (eE L cs)).length=t.args.length:=by simp
   have AK:∀l:List Tm,(∀a,a∈l→a∈t.args)→((l.map (eE L cs)).flatten.length≤l.length*60):=by
    intro l
    induction l with
    |nil=>intro _;simp
    |cons a l ih=>
     intro h;have h1:=QF a (h a (by simp));have h2:=ih (fun b hb=>h b (by simp[hb]));rw[jN,YL,l6,mS];omega
   have AK:=AK t.args (fun a h=>h);have hBg:∀m:Nat,(Option.map (eE L cs) t.args[m]?).getD []=(t.args.map (eE L cs)).getD m []:=fun m=>by simp[bh]
   rw[hA,hB];generalize t.args.map (bm L cs)=A at*;generalize t.args.map (eE L cs)=B at*;have g0:0<A.length:=by omega
   have wQ:A[0]=bq A 0:=by simp[bq,g0]
   by_cases JZ:t.op=6∧(bq A 0).known=true
   ·obtain⟨o6,kn⟩:=JZ;have hv:=h6 o6 kn;have hw:IntKind.i64.wrap (2-(bq A 0).n)=2-(bq A 0).n:=aJ (by omega);have h3:3≤t.args.length:=hlen.2.2 o6;rw[if_pos ⟨o6,kn⟩,if_pos ⟨o6,kn⟩];obtain⟨m,cI⟩:∃m:Nat,m=(2-(bq A 0).n).toNat:=⟨_,rfl⟩
    have Ed:m<A.length:=by omega
    have Qx:m<B.length:=by omega
    simp[UQ,GB,o6,kn,g0,wQ,hw,←cI,Ed,Qx,cells,lists];refine⟨by omega,by omega,by simp[bq,Ed],?_⟩;rw[hBg,bh,cl Qx];rfl
   ·rw[if_neg JZ,if_neg JZ];have aoF:=awJ t.op A (by omega) (by omega) (by omega) hb9 dp;have aoG:=ai4 B (by omega) (by omega);simp[UQ,GB,g0,wQ];rw[if_neg JZ];refine⟨_,aoF,?_⟩;cases e:(ej t.op A).known
    ·have eA:ej t.op A=cN:=akP e;rw[eA];simp;exact aoG
    ·have h:ej t.op A=⟨true,(ej t.op A).n⟩:=by rw[←e]
     rw[h];simp[ints]
     try rfl
end Rm
namespace Rm
open Go Go.Proofs Cx
def lM (n:Nat)(g:Nat→Bool):Int:=if(List.range n).findIdx g<n then((List.range n).findIdx g:Nat) else-1
theorem xB (n:Nat)(g:Nat→Bool):(lM n g=-1∧∀k,k<n→g k=false)∨∃k:Nat,k<n∧lM n g=k∧g k=true∧∀i,i<k→g i=false:=by
 unfold lM;split
 ·rename_i h;refine .inr ⟨_,h,rfl,?_,fun i hi=>?_⟩
  ·have:=List.findIdx_getElem (p:=g) (xs:=List.range n) (w:=by simpa using h);simpa using this
  ·have:=List.not_of_lt_findIdx (p:=g) (xs:=List.range n) hi;simpa using this
 ·rename_i h;refine .inl ⟨rfl,fun k hk=>?_⟩;have:=List.not_of_lt_findIdx (p:=g) (xs:=List.range n) (i:=k) (by omega);simpa using this
theorem KO {n:Nat}{g:Nat→Bool}(h:∀k,k<n→g k=false):lM n g=-1:=by
 rcases xB n g with⟨h1,_⟩|⟨k,hk,_,h2,_⟩
 ·exact h1
 ·rw[h k hk] at h2;cases h2
theorem KP {n k:Nat}{g:Nat→Bool}(hk:k<n)(h:g k=true)(hj:∀i,i<k→g i=false):lM n g=k:=by
 rcases xB n g with⟨_,h1⟩|⟨m,hm,h1,h2,h3⟩
 ·rw[h1 k hk] at h;cases h
 ·rcases Nat.lt_trichotomy m k with h4|h4|h4
  ·rw[hj m h4] at h2;cases h2
  ·rw[h1,h4]
  ·rw[h3 k h4] at h;cases h
theorem acD (n:Nat)(g:Nat→Bool):decide (0≤lM n g)=(List.range n).any g:=by
 rcases xB n g with⟨h1,h2⟩|⟨m,hm,h1,h2,h3⟩
 ·rw[h1]
  symm
  simp;exact h2
 ·rw[h1];simp;exact⟨m,hm,h2⟩
theorem aje (l:List Rule)(f:Nat)(caps:List D)(g:Nat→Bool)(hg:∀k (hk:k<l.length),ak T f (sD l[k]::caps) (.bool (g k)))(hl:l.length≤4294967296):
 ak T 177 [rules l,.clo f caps] (.int (lM l.length g)):=by
 refine .of_tree rfl (lA 33 (by kernel_rfl)) azy ?_;simp[XB];refine .scan l.length (fun k=>g k=false) (fun k=>[.int 0,.int k]) (fun _=>[]) ?_ (fun k hk hj ho=>?_) (fun k hk hj ho=>?_) (fun hj=>?_)
 ·simp
 ·have hw:=bk hk hl;simp[UK,Gw,hk,hw];refine⟨_,_,⟨rfl,rfl⟩,_,hg k hk,?_⟩;simp[ho,hw]
 ·have he:=KP hk (by simpa using ho) hj;simp[UK,Gw,hk,he];refine⟨_,_,⟨rfl,rfl⟩,_,hg k hk,?_⟩;simp[ho]
 ·have he:=KO hj;simp[UK,Gw,he]
theorem ajf (l:List Int)(f:Nat)(caps:List D)(g:Nat→Bool)(hg:∀k (hk:k<l.length),ak T f (.int l[k]::caps) (.bool (g k)))(hl:l.length≤4294967296):
 ak T 217 [ints l,.clo f caps] (.int (lM l.length g)):=by
 refine .of_tree rfl (lA 28 (by kernel_rfl)) azz ?_;simp[XC];refine .scan l.length (fun k=>g k=false) (fun k=>[.int 0,.int k]) (fun _=>[]) ?_ (fun k hk hj ho=>?_) (fun k hk hj ho=>?_) (fun hj=>?_)
 ·simp
 ·have hw:=bk hk hl;simp[UL,Gx,hk,hw,ints];refine⟨_,_,⟨rfl,rfl⟩,_,hg k hk,?_⟩;simp[ho,hw]
 ·have he:=KP hk (by simpa using ho) hj;simp[UL,Gx,hk,he,ints];refine⟨_,_,⟨rfl,rfl⟩,_,hg k hk,?_⟩;simp[ho]
 ·have he:=KO hj;simp[UL,Gx,he,ints]
theorem ajd (l:List Alter)(f:Nat)(caps:List D)(g:Nat→Bool)(hg:∀k (hk:k<l.length),ak T f (pC l[k]::caps) (.bool (g k)))(hl:l.length≤4294967296):
 ak T 216 [alters l,.clo f caps] (.int (lM l.length g)):=by
 refine .of_tree rfl (lA 16 (by kernel_rfl)) azx ?_;simp[XA];refine .scan l.length (fun k=>g k=false) (fun k=>[.int 0,.int k]) (fun _=>[]) ?_ (fun k hk hj ho=>?_) (fun k hk hj ho=>?_) (fun hj=>?_)
 ·simp
 ·have hw:=bk hk hl;simp[UJ,Gv,hk,hw];refine⟨_,_,⟨rfl,rfl⟩,_,hg k hk,?_⟩;simp[ho,hw]
 ·have he:=KP hk (by simpa using ho) hj;simp[UJ,Gv,hk,he];refine⟨_,_,⟨rfl,rfl⟩,_,hg k hk,?_⟩;simp[ho]
 ·have he:=KO hj;simp[UJ,Gv,he]
theorem ai6 (l:List Int)(f:Nat)(caps:List D)(g:Nat→Bool)(hg:∀k (hk:k<l.length),ak T f (.int l[k]::caps) (.bool (g k)))(hl:l.length≤4294967296):
 ak T 199 [ints l,.clo f caps] (.bool ((List.range l.length).any g)):=by
 refine .of_tree rfl (lA 27 (by kernel_rfl)) azu ?_;simp[Xx];refine⟨_,ajf l f caps g hg hl,?_⟩;have:=acD l.length g;simp[←this]
theorem ai5 (l:List Alter)(f:Nat)(caps:List D)(g:Nat→Bool)(hg:∀k (hk:k<l.length),ak T f (pC l[k]::caps) (.bool (g k)))(hl:l.length≤4294967296):
 ak T 195 [alters l,.clo f caps] (.bool ((List.range l.length).any g)):=by
 refine .of_tree rfl (lA 15 (by kernel_rfl)) azt ?_;simp[Xw];refine⟨_,ajd l f caps g hg hl,?_⟩;have:=acD l.length g;simp[←this]
def pE (cs:List Cell)(t:Tm):Cell:=if(jR t).2=0 then bm 8 cs t else cN
theorem ZE {t:Tm}(h:(jR t).2=0):bu 8 t≤60∧bC 8 t=((jR t).1,0):=by
 unfold jR at h ⊢;split at h
 ·cases h
 ·rename_i hm;rw[if_neg hm];exact⟨by omega,by rw[←h]⟩
theorem awH (t:Tm)(cs:List Cell)(ht:t.OK):ak T 156 [di t,cells cs] (cm (pE cs t)):=by
 refine .of_tree rfl (lA 41 (by kernel_rfl)) azJ ?_;simp[XN,pE];refine⟨_,ahS t ht,?_⟩;by_cases h:(jR t).2=0
 ·obtain⟨h1,h2⟩:=ZE h;simp[h];refine⟨_,ahU 8 cs t _ ht h1 h2,?_⟩;simp
  try rfl
 ·simp[h]
  try rfl
def qd:List Int:=[6,7,10,12,13,14,15,16,20,21]
def dW (ask:Int):Int×Bool:=if ask<0∨22≤ask then(0,false) else if hasB qd ask then(0,true) else(1,true)
theorem SQ (ask:Int):ak T 152 [.int ask] (.tup [.int (dW ask).1,.bool (dW ask).2]):=by
 refine .of_tree rfl (lA 21 (by kernel_rfl)) axD ?_;simp[VW,dW];by_cases h0:ask<0
 ·simp[h0]
 by_cases h1:22≤ask
 ·simp[h0,h1]
 simp[h0,h1];refine⟨_,rV qd ask (by decide),?_⟩;cases h:hasB qd ask<;>simp[h]
def La:Tm:=⟨0,0,[]⟩
def lT (o:Order)(ask:Int)(k:Nat):Bool:=decide ((o.rules.getD k default).ask=ask)
def vC (o:Order)(i:Int):Tm:=(o.rules.getD i.toNat default).term
def findF (o:Order)(ask:Int):Tm×Int:=
 if(dW ask).2=false then(La,1) else if lM o.rules.length (lT o ask)<0 then(La,4) else
    if(jR (vC o (lM o.rules.length (lT o ask)))).2≠0∨(jR (vC o (lM o.rules.length (lT o ask)))).1≠(dW ask).1 then(La,11) else(vC o (lM o.rules.length (lT o ask)),0)
theorem MX {o:Order}(ho:o.OK){m:Nat}(hm:m<o.rules.length):o.rules[m].term.OK:=(ho.2.2 _ (cv hm)).2
theorem RF:La.OK:=by
 exact .mk 0 0 [] (by unfold aW;omega) (by unfold aW;omega) (by decide) (fun _ h=>by cases h)
theorem amo {o:Order}(ho:o.OK)(ask:Int):(findF o ask).1.OK:=by
 unfold findF;split
 ·exact RF
 split
 ·exact RF
 split
 ·exact RF
 ·rename_i h _;rcases xB o.rules.length (lT o ask) with⟨h1,h2⟩|⟨m,hm,h1,h2,h3⟩
  ·exact absurd (by rw[h1];decide) h
  ·rw[h1];simp[vC,hm];exact MX ho hm
theorem aml (r:Rule)(ask:Int):ak T 178 [sD r,.ref (.int ask)] (.bool (decide (r.ask=ask))):=by
 refine .of_tree rfl (lA 32 (by kernel_rfl)) axE ?_;simp[VY]
theorem at6 (o:Order)(ask:Int)(ho:o.OK)(hl:o.rules.length≤4294967296):ak T 155 [gT o,.int ask] (.tup [di (findF o ask).1,.int (findF o ask).2]):=by
 refine .of_tree rfl (lA 31 (by kernel_rfl)) axF ?_;simp[VX,findF];refine⟨_,SQ ask,?_⟩;cases h0:(dW ask).2
 ·simp[h0]
  try rfl
 simp[h0];refine⟨_,aje o.rules 178 [.ref (.int ask)] (lT o ask) (fun k hk=>by simpa [lT,hk] using aml o.rules[k] ask) hl,?_⟩;rcases xB o.rules.length (lT o ask) with⟨h1,h2⟩|⟨m,hm,h1,h2,h3⟩
 ·rw[h1];simp
  try rfl
 ·rw[h1];have pV:¬((m:Int)<0):=by omega
  have Ex:o.rules[m].term.OK:=MX ho hm;simp[hm,vC,pV];refine⟨_,ahS _ Ex,?_⟩;by_cases h4:(jR o.rules[m].term).2=0<;>by_cases h5:(jR o.rules[m].term).1=(dW ask).1<;>simp[h4,h5]<;>try rfl
def kh (o:Order)(ask:Int)(cs:List Cell):Cell×Int:=
 if(findF o ask).2≠0 then(cN,(findF o ask).2) else
    (if(dW ask).1=0∧(pE cs (findF o ask).1).known=true then⟨true,min (max (pE cs (findF o ask).1).n 0) 20000⟩ else pE cs (findF o ask).1,0)
theorem at4 (o:Order)(ask:Int)(cs:List Cell)(ho:o.OK)(hl:o.rules.length≤4294967296):ak T 112 [gT o,.int ask,cells cs] (.tup [cm (kh o ask cs).1,.int (kh o ask cs).2]):=by
 refine .of_tree rfl (lA 30 (by kernel_rfl)) axC ?_;simp[VV];refine⟨_,at6 o ask ho hl,?_⟩;have hf:(findF o ask).1.OK:=amo ho ask;by_cases h:(findF o ask).2=0
 ·simp[h,kh];refine⟨_,awH _ cs hf,_,SQ ask,?_⟩;generalize pE cs (findF o ask).1=c;obtain⟨kn,n⟩:=c;by_cases h1:(dW ask).1=0
  ·cases kn
   ·simp[h1,cm]
   ·by_cases h2:n<0
    ·have:min (max n 0) 20000=0:=by omega
     simp[h1,cm,h2,this];rfl
    ·by_cases h3:20000<n
     ·have:min (max n 0) 20000=20000:=by omega
      simp[h1,cm,h2,h3,this];rfl
     ·have:min (max n 0) 20000=n:=by omega
      simp[h1,cm,h2,h3,this];rfl
  ·simp[h1,cm]
 ·simp[h,kh]
  try rfl
end Rm
namespace Rm
open Go Go.Proofs Cx
theorem aho (b:Bool):ak T 197 [.bool b] (cm (eU b)):=by
 refine .of_tree rfl (lA 19 (by kernel_rfl)) azq ?_;cases b<;>simp[Xt,eU]<;>rfl
def nZ (kind sign:Int)(x:Fact):Bool:=decide (x.kind=kind)&&decide (x.at_=sign)
def fo (f:File)(kind sign:Int):Cell:=match f.facts.find? (nZ kind sign) with|none=>cN|some x=>eU (decide (x.n≠0))
theorem pH {α:Type}{p:α→Bool}:∀{l:List α} {k:Nat} (hk:k<l.length),p l[k]=true→(∀j (hj:j<k),p (l[j]'(by omega))=false)→l.find? p=some l[k]
 |a::l,0,hk,h,hj=>by simp at h;simp[h]
 |a::l,k+1,hk,h,hj=>by
  have h0:=hj 0 (by omega);simp at h0;simp only[NV,h0,List.getElem_cons_succ];exact pH (by simpa using hk) (by simpa using h) (fun j br=>by simpa using hj (j+1) (by omega))
theorem qO {α:Type}{p:α→Bool}{l:List α}(h:∀j (hj:j<l.length),p l[j]=false):l.find? p=none:=by
 rw[nS];intro x hx;obtain⟨j,hj,rfl⟩:=gP hx;rw[h j hj];decide
theorem GG (f:File)(kind sign:Int)(hl:f.facts.length≤4294967296):ak T 198 [bT f,.int kind,.int sign] (cm (fo f kind sign)):=by
 refine .of_tree rfl (lA 20 (by kernel_rfl)) azm ?_;simp[Xq];refine .scan f.facts.length (fun k=>nZ kind sign (f.facts.getD k default)=false) (fun k=>[.int k]) (fun _=>[cm cN]) ?_ (fun k hk hj ho=>?_) (fun k hk hj ho=>?_) (fun hj=>?_)
 ·simp
 ·have hw:=bk hk hl;simp[hk,nZ] at ho;by_cases h1:f.facts[k].kind=kind<;>by_cases h2:f.facts[k].at_=sign
  ·exact absurd h2 (ho h1)
  all_goals simp[UF,Gs,hk,hw,h1,h2]
 ·have hw:=bk hk hl;have hf:fo f kind sign=eU (decide (f.facts[k].n≠0)):=by
   unfold fo;rw[pH hk (by simpa [hk] using ho) (fun j br=>by have:=hj j br;simpa [show j<f.facts.length by omega] using this)]
  simp[hk,nZ] at ho;simp[UF,Gs,hk,hw,ho,hf];refine⟨_,aho _,?_⟩;simp
  try rfl
 ·have hf:fo f kind sign=cN:=by
   unfold fo;rw[qO (fun j br=>by have:=hj j br;simpa [br] using this)]
  simp[UF,Gs,hf]
  try rfl
def cD (r:Realm)(c:Int):Int:=if ax c r.cities.length=true then(r.cities.getD c.toNat default).order else-1
theorem qo (r:Realm)(c:Int):ak T 125 [aQ r,.int c] (.int (cD r c)):=by
 refine .of_tree rfl (lA 17 (by kernel_rfl)) aza ?_;simp[Xe,cD];refine⟨_,fX c r.cities.length,?_⟩;cases h:ax c r.cities.length
 ·simp[h]
 ·simp[ax] at h;have h1:c.toNat<r.cities.length:=by omega
  simp[h,h1]
def iQ (day:Int)(l:List Sign):List Sign:=l.takeWhile fun s=>decide (s.day≤day)
def Ca (day:Int)(l:List Act):List Act:=l.takeWhile fun s=>decide (s.day≤day)
def ir (n:Nat)(a:Alter):Bool:=decide (a.at_≤(n:Int))
def fO (n:Nat)(x:Fact):Bool:=ax x.at_ n
def aE (f:File)(day:Int):File:=
 ⟨f.bill,iQ day f.signs,f.alters.filter (ir (iQ day f.signs).length),Ca day f.acts,f.facts.filter (fO (iQ day f.signs).length)⟩
theorem yE {α:Type}(p:α→Bool):∀(l:List α),∃m,m≤l.length∧l.takeWhile p=l.take m∧(∀k (hk:k<l.length),k<m→p l[k]=true)∧(∀hk:m<l.length,p l[m]=false)
 |[]=>⟨0,by simp,by simp,fun k hk=>by simp at hk,fun hk=>by simp at hk⟩
 |a::l=>by
  by_cases h:p a=true
  ·obtain⟨m,h1,h2,h3,h4⟩:=yE p l;refine⟨m+1,by simp;omega,by simp[h,h2],fun k hk hm=>?_,fun hk=>?_⟩
   ·cases k with
    |zero=>simpa using h
    |succ k=>simpa using h3 k (by simpa using hk) (by omega)
   ·simpa using h4 (by simpa using hk)
  ·refine⟨0,by simp,by simp[h],fun k hk hm=>by omega,fun hk=>by simpa using h⟩
theorem vG {α:Type}(p:α→Bool)(l:List α){k:Nat}(hk:k<l.length):(l.take (k+1)).filter p=(l.take k).filter p++if p l[k] then[l[k]] else[]:=by
 rw[jO hk,NT]
 congr 1
 cases h:p l[k]<;>simp[h]
def ma (b:Bill)(w x y z:D):D:=.agg [.int b.drawer,.int b.drawee,.int b.payee,.int b.sum,.int b.currency,.int b.tenor.kind,.int b.tenor.n,.int b.tenor.unit,.int b.day,.int b.city,.int b.pay,.int b.need,.int b.rate,.int b.flags,.int b.parts,w,x,y,z]
@[simp] theorem aDj (b:Bill)(w x y z:D):D.agg (dm (ma b w x y z).cells 16 [D.none])=ma b w .none y z:=_root_.id rfl
@[simp] theorem aDk (b:Bill)(w x y z:D):D.agg (dm (ma b w x y z).cells 18 [D.none])=ma b w x y .none:=_root_.id rfl
def lK {α:Type}(l:List α):D:=match l with|[]=>.list []|_=>.none
@[simp] theorem aFG {α:Type}:lK ([]:List α)=.list []:=rfl
@[simp] theorem abT {α:Type}(l:List α)(x:α):lK (l++[x])=.none:=by cases l<;>rfl
theorem UT (f:File)(day:Int)(h1:f.signs.length≤4294967295)(h2:f.acts.length≤4294967295)(h3:f.alters.length≤4294967295)(h4:f.facts.length≤4294967295):ak T 33 [bT f,.int day] (bT (aE f day)):=by
 refine .of_tree rfl (lA 6 (by kernel_rfl)) azl ?_;simp[Xp];obtain⟨m,hm,hS,J2,uy⟩:=yE (fun s:Sign=>decide (s.day≤day)) f.signs;obtain⟨n,hn,hA,PX,PY⟩:=yE (fun s:Act=>decide (s.day≤day)) f.acts;refine aL.forRounds m (fun k=>[.int k]) (fun k=>[signs (f.signs.take k),ma f.bill (lK (f.signs.take k)) (.list []) (.list []) (.list [])]) ?_ (fun k hk=>?_) ?_
 ·simp[ma,signs]
  try rfl
 ·have bo:k<f.signs.length:=by omega
  have hw:=bk bo (by omega);have hd:=J2 k bo hk;simp at hd;have dP:¬day<f.signs[k].day:=by omega
  have hle:(k:Int)+1≤4294967296:=by omega
  have ht:=jO bo;rw[ht];have hlen:(f.signs.take k).length=k:=by simp;omega
  generalize f.signs.take k=A at*;simp[UB,Gn,bo,hw,dP,hlen];exact⟨hle,by simp[signs],rfl⟩
 have hSl:(f.signs.take m).length≤4294967295:=by rw[eH];omega
 have PZ:aE f day=⟨f.bill,f.signs.take m,f.alters.filter (ir (f.signs.take m).length),f.acts.take n,f.facts.filter (fO (f.signs.take m).length)⟩:=by
  unfold aE iQ Ca;rw[hS,hA]
 rw[PZ];generalize f.signs.take m=S at*;have hAl:(f.acts.take n).length≤4294967295:=by rw[eH];omega
 by_cases cI:m<f.signs.length
 case' pos=>
  have hd:=uy cI;simp at hd;simp[UB,Gn,cI,hd];generalize D.bool true=bb
 case' neg=>
  have qY:m=f.signs.length:=by omega
  simp[UB,Gn,cI,qY];generalize D.bool false=bb
 all_goals
  refine aL.forRounds n (fun k=>[.int k]) (fun k=>[acts (f.acts.take k),ma f.bill (lK S) (.list []) (lK (f.acts.take k)) (.list [])]) ?_ (fun k hk=>?_) ?_
  ·simp[acts]
  ·have bo:k<f.acts.length:=by omega
   have hw:=bk bo (by omega);have hd:=PX k bo hk;simp at hd;have dP:¬day<f.acts[k].day:=by omega
   have hle:(k:Int)+1≤4294967296:=by omega
   have ht:=jO bo;rw[ht];have hlen:(f.acts.take k).length=k:=by simp;omega
   generalize f.acts.take k=A at*;simp[UC,Gp,bo,hw,dP,hlen];exact⟨hle,by simp[acts],rfl⟩
  generalize f.acts.take n=A at*;by_cases iY:n<f.acts.length
  case' pos=>
   have hd:=PY iY;simp at hd;simp[UC,Gp,iY,hd];generalize D.bool true=bc
  case' neg=>
   have xh:n=f.acts.length:=by omega
   simp[UC,Gp,iY,xh];generalize D.bool false=bc
  all_goals
   refine aL.forRounds f.alters.length (fun k=>[.int k]) (fun k=>[ma f.bill (lK S) (lK ((f.alters.take k).filter (ir S.length))) (lK A) (.list []),alters ((f.alters.take k).filter (ir S.length))]) ?_ (fun k hk=>?_) ?_
   ·simp[alters]
   ·have hw:=bk hk (by omega);have ht:=vG (ir S.length) f.alters hk;rw[ht];have hlen:((f.alters.take k).filter (ir S.length)).length≤k:=ke (rY _ _) (by simp;omega);generalize (f.alters.take k).filter (ir S.length)=B at*;by_cases hd:f.alters[k].at_≤(S.length:Int)
    ·simp[UD,Gq,ir,hk,hw,hd];exact⟨by omega,rfl,by simp[alters]⟩
    ·simp[UD,Gq,ir,hk,hw,hd]
   simp[UD,Gq];generalize f.alters.filter (ir S.length)=B at*;refine aL.forRounds f.facts.length (fun k=>[.int k]) (fun k=>[ma f.bill (lK S) (lK B) (lK A) (lK ((f.facts.take k).filter (fO S.length))),facts ((f.facts.take k).filter (fO S.length))]) ?_ (fun k hk=>?_) ?_
   ·simp[facts]
   ·have hw:=bk hk (by omega);have ht:=vG (fO S.length) f.facts hk;rw[ht];have hlen:((f.facts.take k).filter (fO S.length)).length≤k:=ke (rY _ _) (by simp;omega);generalize (f.facts.take k).filter (fO S.length)=C at*;cases hd:ax f.facts[k].at_ S.length
    ·simp[UE,Gr,fO,hk,hw,hd];refine⟨_,qp _ _,?_⟩;simp[hd,hw]
    ·simp[UE,Gr,fO,hk,hw,hd];refine⟨_,qp _ _,?_⟩;simp[hd,hw];exact⟨by omega,rfl,by simp[facts]⟩
   simp[UE,Gr];rfl
end Rm
namespace Rm
open Go Go.Proofs Cx
def eQ:List Int→Int
 |[]=>-1
 |x::l=>l.foldl min x
theorem ajo (x:Int)(l:List Int)(hl:l.length<4294967296):ak T 80 [ints (x::l)] (.int (eQ (x::l))):=by
 refine .of_tree rfl (lA 52 (by kernel_rfl)) azC ?_;have h0:¬((l.length:Int)+1<1):=by omega
 simp[XF,h0,eQ,ints];refine aL.forRounds l.length (fun k=>[.int ((l.take k).foldl min x),.int ((k:Int)+1)]) (fun k=>[]) ?_ (fun k hk=>?_) ?_
 ·simp
 ·have hw:IntKind.i64.wrap ((k:Int)+1+1)=(k:Int)+1+1:=aJ (by omega);rw[jO hk,Cp];generalize (l.take k).foldl min x=y;have ht:((k:Int)+1).toNat=k+1:=by omega
  have ar:(k:Int)+1<(l.length:Int)+1:=by omega
  simp[ahj,MK,hk,hw,ht,ar];refine⟨by omega,?_⟩;by_cases h:l[k]<y
  ·simp[h];omega
  ·simp[h];omega
 ·simp[ahj,MK]
def fB (f:File)(n:Nat):List Int:=if f.bill.tenor.kind=1 then((f.signs.take n).filter (fun s=>decide (s.kind=1))).map (·.day) else[]
def eT (f:File)(n:Nat):List Int:=if f.bill.tenor.kind=1 then((f.acts.take n).filter (fun s=>decide (s.kind=1))).map (·.day) else[]
def jI (f:File)(a:Act):Bool:=decide (f.bill.tenor.kind=0)&&decide (a.kind=2)
def fi (f:File):Int:=match f.acts.find? (jI f) with|some a=>a.day|none=>eQ (fB f f.signs.length++eT f f.acts.length)
theorem ahn (f:File)(h1:f.signs.length≤100000)(h2:f.acts.length≤100000):ak T 37 [bT f] (.int (fi f)):=by
 refine .of_tree rfl (lA 51 (by kernel_rfl)) azn ?_;simp[Xr];refine aL.forRounds f.signs.length (fun k=>[.none,.int k]) (fun k=>[ints (fB f k)]) ?_ (fun k hk=>?_) ?_
 ·simp[fB,ints]
 ·have hw:=bk hk (by omega);have hs:fB f (k+1)=fB f k++if f.bill.tenor.kind=1∧f.signs[k].kind=1 then[f.signs[k].day] else[]:=by
   unfold fB;by_cases h:f.bill.tenor.kind=1
   ·simp only[if_pos h,vG _ _ hk,pf,h,true_and]
    congr 1
    by_cases h':f.signs[k].kind=1<;>simp[h']
   ·simp[h]
  have hlen:(fB f k).length≤k:=by
   unfold fB;split
   ·rw[nU];exact ke (rY _ _) (by simp;omega)
   ·simp
  rw[hs];generalize fB f k=A at*;by_cases hc:f.bill.tenor.kind=1∧f.signs[k].kind=1
  ·simp[UG,Gt,hk,hw,hc];exact⟨by omega,by simp[ints]⟩
  ·simp[UG,Gt,hk,hw,hc]
 ·have hlS:(fB f f.signs.length).length≤100000:=by
   unfold fB;split
   ·rw[nU];exact ke (rY _ _) (by simp;omega)
   ·simp
  have hE:fi f=match f.acts.find? (jI f) with|some a=>a.day|none=>eQ (fB f f.signs.length++eT f f.acts.length):=rfl
  generalize fB f f.signs.length=A at*;simp[UG,Gt];refine aL.scan f.acts.length (fun k=>jI f (f.acts.getD k default)=false) (fun k=>[.int 0,.none,.int k]) (fun k=>[ints (A++eT f k)]) ?_ (fun k hk hj ho=>?_) (fun k hk hj ho=>?_) (fun hj=>?_)
  ·simp[eT,ints]
  ·have hw:=bk hk (by omega);have hs:eT f (k+1)=eT f k++if f.bill.tenor.kind=1∧f.acts[k].kind=1 then[f.acts[k].day] else[]:=by
        unfold eT;by_cases h:f.bill.tenor.kind=1
        ·simp only[if_pos h,vG _ _ hk,pf,h,true_and]
         congr 1
         by_cases h':f.acts[k].kind=1<;>simp[h']
        ·simp[h]
   have hlen:(eT f k).length≤k:=by
        unfold eT;split
        ·rw[nU];exact ke (rY _ _) (by simp;omega)
        ·simp
   rw[hs];generalize eT f k=B at*;simp[jI,hk] at ho;by_cases hc:f.bill.tenor.kind=1∧f.acts[k].kind=1
   ·simp[Gu,yr,hk,hw,hc];exact⟨by omega,by simp[ints]⟩
   ·have hn:¬(f.bill.tenor.kind=0∧f.acts[k].kind=2):=fun h=>ho h.1 h.2;simp[Gu,yr,hk,hw,hc,hn]
  ·have hf:fi f=f.acts[k].day:=by
        rw[hE,pH hk (by simpa [hk] using ho) (fun j br=>by have:=hj j br;simpa [show j<f.acts.length by omega] using this)]
   simp[jI,hk] at ho;simp[Gu,yr,hk,ho,hf]
  ·have hf:fi f=eQ (A++eT f f.acts.length):=by
        rw[hE,qO (fun j br=>by have:=hj j br;simpa [br] using this)]
   have hlA:(eT f f.acts.length).length≤100000:=by
        unfold eT;split
        ·rw[nU];exact ke (rY _ _) (by simp;omega)
        ·simp
   rw[hf];have hL:(A++eT f f.acts.length).length≤200000:=by rw[l6];omega
   generalize A++eT f f.acts.length=L at*;cases L with
   |nil=>simp[Gu,yr,eQ,ints]
   |cons x l=>
    have aA:¬((l.length:Int)+1=0):=by omega
    simp[Gu,yr,aA];exact ajo x l (by simp at hL;omega)
end Rm
namespace Rm
open Go Go.Proofs Cx
def iu (g:Nat→Cell):D:=.list ((List.range 20).map fun i=>cm (g i))
theorem ZC {g g':Nat→Cell}(h:∀i,i<20→g i=g' i):iu g=iu g':=by
 unfold iu
 congr 1
 exact yO fun i hi=>by rw[h i (by simpa using hi)]
theorem ZD (g:Nat→Cell)(k:Nat)(c:Cell):D.list ((iu g).l.set k (cm c))=iu (fun i=>if i=k then c else g i):=by
 unfold iu
 congr 1
 show((List.range 20).map fun i=>cm (g i)).set k (cm c)=_;apply NS
 ·simp
 ·intro i h1 h2;simp at h2;rw[List.getElem_set];by_cases h:k=i
  ·simp[h]
  ·have h':¬i=k:=fun e=>h e.symm;simp[h,h']
@[simp] theorem aDO (g:Nat→Cell):(iu g).l.length=20:=by
  show((List.range 20).map fun i=>cm (g i)).length=20;simp
theorem Hw (g:Nat→Cell){k:Nat}(hk:k<20):(iu g).l[k]?.getD D.none=cm (g k):=by
 show((List.range 20).map fun i=>cm (g i))[k]?.getD D.none=cm (g k);simp[hk]
theorem akw (g:Nat→Cell){k:Nat}(hk:k<(iu g).l.length):(iu g).l[k]=cm (g k):=by
 have h:=Hw g (k:=k) (by simpa using hk);rw[cl hk] at h;exact h
theorem aky (g:Nat→Cell)(k:Nat)(c:Cell):(iu g).l.set k (cm c)=(iu (fun i=>if i=k then c else g i)).l:=congrArg D.l (ZD g k c)
theorem akx (g:Nat→Cell):D.list (iu g).l=iu g:=rfl
@[simp] theorem aHi (x:Cell)(b:Bool)(n:Int):tT (cm x) 0 (D.agg [D.bool b,D.int n])=cm ⟨b,n⟩:=_root_.id rfl
def Aq {α:Type}(l:List (Int×α))(val:α→Cell)(g0:Nat→Cell)(i:Nat):Cell:=match l.find? (fun p=>decide (p.1=(i:Int))) with|some p=>val p.2|none=>g0 i
def rn {α:Type}(enc:α→D)(p:Int×α):D:=.tup [.int p.1,enc p.2]
theorem ac3 {α:Type}{J o:Nat}{ps dk:List Nat}{a:PC}{ρ:Env}{Q:Out→Prop}(l:List (Int×α))(enc:α→D)(val:α→Cell)(g0:Nat→Cell)
 (nd:∀p q,p∈l→q∈l→p.1=q.1→p=q) (UW:∀p,p∈l→0≤p.1) (he:ρ.o J=.tup [.list [],.map (l.map fun p=>(.int p.1,enc p.2))]) (h0:ρ.o o=iu g0)
 (step:∀p,p∈l→∀g done,aK T (qq [o] a) ((ρ.put ps (dk.map (rn enc p).tget) [o] [iu g]).setO J (.tup [.list (done++[rn enc p]),.map (l.map fun p=>(.int p.1,enc p.2))])) (fun y=>∃ρ',y=.next ρ'∧ρ'.o o=.list ((iu g).l.set p.1.toNat (cm (val p.2)))))
 (last:Q (.next (ρ.put [] [] [o] [iu (Aq l val g0)]))):aL T (.meach J ps dk [o] a) ρ Q:=by
 have nj:iN (.map (l.map fun p=>((D.int p.1,enc p.2):D×D)))=l.map (rn enc):=by
  simp[iN,rn]
 refine .meachR _ he (fun done vo=>∃g:Nat→Cell,vo=[iu g]∧(∀p,p∈l→rn enc p∈done→g p.1.toNat=val p.2)∧∀i:Nat,(∀p,p∈l→rn enc p∈done→p.1≠i)→g i=g0 i) ⟨g0,by simp[h0],(fun p _ h=>by cases h),fun i _=>rfl⟩ (fun done x rest vo hp ⟨g,hv,lH,fR⟩=>?_) ⟨_,fun done hp vo ⟨g,hv,lH,fR⟩=>?_,last⟩
 ·subst hv;rw[nj] at hp;have hx:x∈l.map (rn enc):=hp.subset (by simp);obtain⟨p,eO,rfl⟩:=dH.mp hx;refine yS _ (fun y ⟨ρ',e,ho⟩=>⟨ρ',e,fun i=>if i=p.1.toNat then val p.2 else g i,by simp[ho,ZD],fun q hq QP=>?_,fun i hi=>?_⟩) (step p eO g done)
  ·have QQ:=UW q hq;have lL:=UW p eO;by_cases h:q.1=p.1
   ·rw[nd q p hq eO h];simp
   ·show(if q.1.toNat=p.1.toNat then val p.2 else g q.1.toNat)=val q.2;rw[if_neg (by omega)];rcases da.mp QP with h1|h1
    ·exact lH q hq h1
    ·simp[rn] at h1;exact absurd h1.1 h
  ·have lL:=UW p eO;have eN:=hi p eO (by simp);show(if i=p.1.toNat then val p.2 else g i)=g0 i;rw[if_neg (by omega)];exact fR i fun q hq QP=>hi q hq (by simp[QP])
 ·rw[hv,nj] at*
  congr 1
  refine ZC fun i hi=>?_;unfold Aq;cases hf:l.find? (fun p=>decide (p.1=(i:Int))) with
  |some p=>
   have eO:=pg hf;have KB:p.1=(i:Int):=by simpa using Cn hf
   have:=lH p eO (hp.symm.subset (List.mem_map_of_mem eO));simp only;rw[←this,KB];rfl
  |none=>
   refine fR i fun p eO _=>?_;have:=nS.mp hf p eO;simpa using this
@[simp] theorem aF4 (a b:Int):eP (D.int a) (D.int b)=decide (a=b):=by
  show((a==b)&&true)=decide (a=b);rw[Bool.and_true];by_cases h:a=b<;>simp[h]
def uv (n k:Int):Bool:=decide (cX .and .i64 n k≠0)
def u9 (s:Sign)(due:Int):Int:=if due=-1 then 0 else s.day-due
def pv (f:File)(sign:Int):Bool:=(List.range f.alters.length).any fun k=>decide ((f.alters.getD k default).at_≤sign)
def iy (c:Case):Int:=if c.holder<0 then 0 else c.holder
def nJ (c:Case)(s:Sign):List (Int×Int):=[(0,c.file.bill.sum),(1,c.file.bill.parts),(2,c.file.bill.tenor.kind),(3,c.file.bill.rate),(4,s.kind),(5,c.defence),(6,u9 s c.due)]
def nK (r:Realm)(c:Case)(s:Sign):List (Int×Bool):=[(7,uv c.file.bill.flags 1),(8,decide (c.file.bill.payee=-1)),(9,uv c.file.bill.flags 4),(10,uv c.file.bill.flags 2),(11,decide (cD r c.file.bill.city≠cD r c.file.bill.pay)),(12,pv c.file c.sign),(13,uv s.flags 1),(14,decide (0<u9 s c.due))]
def wP (r:Realm)(c:Case)(s:Sign):List Cell:=
 (nJ c s).map (fun p=>⟨true,p.2⟩)++(nK r c s).map (fun p=>eU p.2)++
    [fo c.file 0 c.sign,fo c.file 1 c.sign,fo c.file 2 c.sign,fo c.file 3 (iy c),fo c.file 4 (iy c)]
@[simp] theorem aDn (x:Case):kg 19 (eL x)=bT x.file:=_root_.id rfl
@[simp] theorem aDl (x:Case):kg 15 (eL x)=db x.file.bill:=_root_.id rfl
@[simp] theorem aDm (x:File):kg 15 (bT x)=db x.bill:=_root_.id rfl
def kM (c:Case):Bool:=ax c.sign c.file.signs.length&&decide (-1≤c.holder)&&decide (iy c<c.file.signs.length)&&(decide (c.due=-1)||ax c.due 100001)
def dC (r:Realm)(c:Case):List Cell:=if kM c=true∧ax (c.file.signs.getD c.sign.toNat default).day 100001=true then wP r c (c.file.signs.getD c.sign.toNat default) else[]
theorem avL (r:Realm)(c:Case)(h2:c.file.facts.length≤100000)(h3:c.file.alters.length≤100000):ak T 174 [aQ r,eL c] (cells (dC r c)):=by
 refine .of_tree rfl (lA 13 (by kernel_rfl)) azp ?_;cases hs:ax c.sign c.file.signs.length
 ·have hv:dC r c=[]:=by unfold dC kM;rw[hs];simp
  rw[hv];simp[vM];refine⟨_,qp _ _,?_⟩;simp[hs];rfl
 by_cases hh:c.holder< -1
 ·have hv:dC r c=[]:=by unfold dC kM;rw[hs];simp;intros;omega
  rw[hv];simp[vM,hh];exact⟨⟨_,qp _ _⟩,rfl⟩
 by_cases hm:(c.file.signs.length:Int)≤iy c
 ·have hv:dC r c=[]:=by unfold dC kM;rw[hs];simp;intros;omega
  rw[hv];unfold iy at hm;simp[vM,hm];exact⟨⟨_,qp _ _⟩,rfl⟩
 by_cases hd:c.due≠-1∧ax c.due 100001=false
 ·have hv:dC r c=[]:=by unfold dC kM;rw[hs];simp[hd]
  rw[hv];unfold iy at hm;obtain⟨bB,dy⟩:=hd;simp[vM,hh,hm,bB];refine⟨_,qp _ _,?_⟩;simp[hs,hh,hm,bB];refine⟨_,qp _ _,?_⟩;simp[hs,hh,hm,bB,dy];rfl
 have hcb:kM c=true:=by
  unfold kM;rw[hs];simp;refine⟨⟨by omega,by omega⟩,?_⟩;by_cases h:c.due=-1
  ·exact .inl h
  ·right;cases hb:ax c.due 100001
   ·exact absurd ⟨h,hb⟩ hd
   ·rfl
 have hlen:c.sign.toNat<c.file.signs.length:=by simp[ax] at hs;omega
 have eY:0≤c.sign∧c.sign<(c.file.signs.length:Int):=by simpa [ax] using hs
 obtain⟨s,dj⟩:∃s:Sign,s=c.file.signs[c.sign.toNat]:=⟨_,rfl⟩
 have gn:c.file.signs.getD c.sign.toNat default=s:=by rw[dj];simp[hlen]
 have hv:dC r c=if ax s.day 100001=true then wP r c s else[]:=by
  unfold dC;rw[gn,hcb];simp
 rw[hv];unfold iy at hm;by_cases mq:c.due=-1
 case' pos=>
  have aa9:(c.due=-1)=True:=eq_true mq;simp[vM,hh,hm,aa9];refine⟨_,qp _ _,?_⟩;simp[hs,hh,hm,aa9,hlen,←dj,eY]
 case' neg=>
  have uA:ax c.due 100001=true:=by
   cases hb:ax c.due 100001
   ·exact absurd ⟨mq,hb⟩ hd
   ·rfl
  simp[vM,hh,hm,mq];refine⟨_,qp _ _,?_⟩;simp[hs,hh,hm,mq];refine⟨_,qp _ _,?_⟩;simp[hs,hh,hm,mq,uA,hlen,←dj,eY]
 all_goals
  refine⟨_,qp _ _,?_⟩;cases AH:ax s.day 100001
  ·simp[AH];rfl
  simp[AH,ld];refine ac3 (nJ c s) D.int (fun n=>⟨true,n⟩) (fun _=>cN) ?_ ?_ ?_ ?_ (fun p hp g done=>?_) ?_
  ·intro p q hp hq h;simp[nJ] at hp hq;rcases hp with rfl|rfl|rfl|rfl|rfl|rfl|rfl<;>rcases hq with rfl|rfl|rfl|rfl|rfl|rfl|rfl<;>first|rfl|(simp at h)
  ·intro p hp;simp[nJ] at hp;rcases hp with rfl|rfl|rfl|rfl|rfl|rfl|rfl<;>simp
  ·have AM:(if c.due=-1 then(0:Int) else IntKind.i64.wrap (s.day-c.due))=u9 s c.due:=by
        unfold u9;by_cases h:c.due=-1
        ·simp[h]
        ·have uA:ax c.due 100001=true:=by
          cases hb:ax c.due 100001
          ·exact absurd ⟨h,hb⟩ hd
          ·rfl
         simp[ax] at uA AH;rw[if_neg h,if_neg h];exact aJ (by omega)
   simp[nJ,ld,hlen,←dj];rw[←AM];by_cases h:c.due=-1<;>simp[h]
  ·simp[iu];rfl
  ·have hr:0≤p.1∧p.1<20:=by
        simp[nJ] at hp;rcases hp with rfl|rfl|rfl|rfl|rfl|rfl|rfl<;>simp
   have hk:p.1.toNat<20:=by omega
   simp[avB,UH,rn,Hw g hk];exact hr
  have apr:∀k (hk:k<c.file.alters.length),ak T 196 (pC c.file.alters[k]::[.ref (eL c)]) (.bool (decide ((c.file.alters.getD k default).at_≤c.sign))):=fun k hk=>by
   refine .of_tree rfl (lA 14 (by kernel_rfl)) azo ?_;simp[Xs,hk]
  simp;refine⟨_,ai5 c.file.alters _ _ _ apr (by omega),_,qo r _,_,qo r _,?_⟩;have AM:(if c.due=-1 then(0:Int) else IntKind.i64.wrap (s.day-c.due))=u9 s c.due:=by
   unfold u9;by_cases h:c.due=-1
   ·simp[h]
   ·have uA:ax c.due 100001=true:=by
     cases hb:ax c.due 100001
     ·exact absurd ⟨h,hb⟩ hd
     ·rfl
    simp[ax] at uA AH;rw[if_neg h,if_neg h];exact aJ (by omega)
  have Qo:cells (wP r c s)=iu (fun i=>if i=15 then fo c.file 0 c.sign else if i=16 then fo c.file 1 c.sign else if i=17 then fo c.file 2 c.sign else if i=18 then fo c.file 3 (iy c) else if i=19 then fo c.file 4 (iy c) else Aq (nK r c s) eU (Aq (nJ c s) (fun n=>⟨true,n⟩) (fun _=>cN)) i):=by
   rfl
  generalize Aq (nJ c s) (fun n=>(⟨true,n⟩:Cell)) (fun _=>cN)=g1 at*;refine ac3 (nK r c s) D.bool eU g1 ?_ ?_ ?_ ?_ (fun p hp g done=>?_) ?_
  ·intro p q hp hq h;simp[nK] at hp hq;rcases hp with rfl|rfl|rfl|rfl|rfl|rfl|rfl|rfl<;>rcases hq with rfl|rfl|rfl|rfl|rfl|rfl|rfl|rfl<;>first|rfl|(simp at h)
  ·intro p hp;simp[nK] at hp;rcases hp with rfl|rfl|rfl|rfl|rfl|rfl|rfl|rfl<;>simp
  ·simp[nK,ld,hlen,←dj,uv];rw[←AM];by_cases h:c.due=-1<;>simp[h,pv]
  ·simp
  ·have hr:0≤p.1∧p.1<20:=by
        simp[nK] at hp;rcases hp with rfl|rfl|rfl|rfl|rfl|rfl|rfl|rfl<;>simp
   have hk:p.1.toNat<20:=by omega
   simp[avC,UI,rn,Hw g hk];refine⟨_,aho _,?_⟩;simp[Hw g hk];exact hr
  simp;generalize Aq (nK r c s) eU g1=g2 at*;have sN:(if c.holder<0 then D.int 0 else D.int c.holder)=D.int (iy c):=by
   unfold iy;split<;>rfl
  rw[sN];refine⟨_,GG _ _ _ (by omega),_,GG _ _ _ (by omega),_,GG _ _ _ (by omega),_,GG _ _ _ (by omega),_,GG _ _ _ (by omega),?_⟩;rw[Qo];simp only[akw,awy,aky,akx];refine ZC fun i hi=>?_;by_cases JT:i=15
  ·subst JT;simp
  by_cases JU:i=16
  ·subst JU;simp
  by_cases JV:i=17
  ·subst JV;simp
  by_cases JW:i=18
  ·subst JW;simp
  by_cases h19:i=19
  ·subst h19;simp
  simp[JT,JU,JV,JW,h19]
end Rm
namespace Rm
open Go Go.Proofs Cx
def E5 (n:Nat)(x:Int):Bool:=decide (x<0)||decide ((n:Int)≤x)
def jm (r:Realm)(a q:Int)(l:List Int):Bool:=
 !(decide (a<0)||decide ((r.orders.length:Int)≤a)||decide (q<0)||decide (22≤q)||decide (l.length≠5))&& !((List.range l.length).any fun k=>E5 r.orders.length (l.getD k 0))
theorem amp (x n:Int):ak T 200 [.int x,.ref (.int n)] (.bool (decide (x<0)||decide (n≤x))):=by
 refine .of_tree rfl (lA 26 (by kernel_rfl)) axf ?_;by_cases h:x<0<;>simp[VD,h]
theorem aai (r:Realm)(a q:Int)(l:List Int)(hl:l.length≤100000):ak T 175 [aQ r,.int a,.int q,ints l] (.bool (jm r a q l)):=by
 refine .of_tree rfl (lA 25 (by kernel_rfl)) axg ?_;by_cases h1:a<0
 ·simp[vJ,jm,h1]
 by_cases h2:(r.orders.length:Int)≤a
 ·simp[vJ,jm,h1,h2]
 by_cases h3:q<0
 ·simp[vJ,jm,h1,h2,h3]
 by_cases h4:22≤q
 ·simp[vJ,jm,h1,h2,h3,h4]
 by_cases h5:(l.length:Int)=5
 ·have JY:l.length=5:=by omega
  simp[vJ,h1,h2,h3,h4,JY];refine⟨_,ai6 l 200 [.ref (.int r.orders.length)] (fun k=>E5 r.orders.length (l.getD k 0)) (fun k hk=>by simpa [E5,hk] using amp l[k] r.orders.length) (by omega),?_⟩;simp only[jm,JY];simp[h1,h2,h3,h4]
 ·have JY:¬l.length=5:=by omega
  simp[vJ,jm,h1,h2,h3,h4,JY];intro h;omega
theorem Ar {r:Realm}{a q:Int}{l:List Int}(h:jm r a q l=true):(0≤a∧a<r.orders.length)∧l.length=5∧(∀x,x∈l→0≤x∧x<r.orders.length)∧∀b:Int,0≤b→b<r.orders.length→jm r b q l=true:=by
 unfold jm at h ⊢;rw[az] at h;obtain⟨h1,h2⟩:=h;simp at h1;refine⟨by omega,h1.2,fun x hx=>?_,fun b jU ew=>?_⟩
 ·obtain⟨k,hk,rfl⟩:=gP hx;simp[E5] at h2;have:=h2 k hk;simp[hk] at this;omega
 ·rw[h2];simp;omega
def vT (r:Realm):Prop:=∀o,o∈r.orders→o.choices.length≤100000∧∀ch,ch∈o.choices→0≤ch.by_∧ch.by_<5
def lN (q:Int)(ch:Choice):Bool:=decide (ch.ask=q)&&decide (ch.by_≠0)
def gX (r:Realm)(a:Int):Order:=r.orders.getD a.toNat default
def fb (r:Realm)(a q:Int)(l:List Int):Int×Bool:=
 (match(gX r a).choices.find? (lN q) with|some ch=>l.getD ch.by_.toNat 0|none=>a,match(gX r a).choices.find? (lN q) with|some ch=>ch.whole|none=>false)
theorem NQ (r:Realm)(kP:vT r)(a q:Int)(l:List Int)(hl:l.length≤100000)(hf:jm r a q l=true):
 ak T 176 [aQ r,.int a,.int q,ints l] (.tup [.int (fb r a q l).1,.bool (fb r a q l).2])∧0≤(fb r a q l).1∧(fb r a q l).1<r.orders.length:=by
 obtain⟨ha,uI,hx,_⟩:=Ar hf;have m8:a.toNat<r.orders.length:=by omega
 obtain⟨bA,kR⟩:=kP _ (cv m8);obtain⟨o,ho⟩:∃o,o=r.orders[a.toNat]:=⟨_,rfl⟩
 rw[←ho] at bA kR;have xk:gX r a=o:=by rw[ho];simp[gX,m8]
 unfold fb;rw[xk];refine⟨?_,?_⟩
 ·refine .of_tree rfl (lA 29 (by kernel_rfl)) axe ?_;simp[VC];refine⟨_,aai r a q l hl,?_⟩;simp[hf,m8,←ho,ha];refine aL.scan o.choices.length (fun k=>lN q (o.choices.getD k default)=false) (fun k=>[.int 0,.bool false,.int k]) (fun _=>[]) ?_ (fun k hk hj aB=>?_) (fun k hk hj aB=>?_) (fun hj=>?_)
  ·simp
  ·have hw:=bk hk (by omega);have hn:¬(o.choices[k].ask=q∧¬o.choices[k].by_=0):=by simpa [lN,hk] using aB
   simp[TR,FC,m8,←ho,hk,hw,hn]
  ·have dE:=pH hk (by simpa [hk] using aB) (fun j br=>by have:=hj j br;simpa [show j<o.choices.length by omega] using this);rw[dE];have hc:o.choices[k].ask=q∧¬o.choices[k].by_=0:=by simpa [lN,hk] using aB
   have hb:=kR _ (cv hk);have sI:o.choices[k].by_.toNat<l.length:=by omega
   simp[TR,FC,m8,←ho,hk,hc,ints,sI];omega
  ·have dE:=qO (l:=o.choices) (p:=lN q) (fun j br=>by have:=hj j br;simpa [br] using this);rw[dE];simp[TR,FC,m8,←ho]
 ·cases dE:o.choices.find? (lN q) with
  |none=>exact ha
  |some ch=>
   have hb:=kR _ (pg dE);have sI:ch.by_.toNat<l.length:=by omega
   simp[sI];exact hx _ (cv sI)
theorem LN:∀(N:Nat) (l:List Int),l.Nodup→(∀x,x∈l→0≤x∧x<(N:Int))→l.length≤N
 |0,l,hn,h=>by
  cases l with
  |nil=>simp
  |cons a l=>have:=h a (by simp);omega
 |N+1,l,hn,h=>by
  by_cases hm:(N:Int)∈l
  ·have h1:=LN N (l.erase (N:Int)) (hn.erase _) (fun x hx=>by
    have du:=(hn.mem_erase_iff).mp hx;have:=h x du.2;have aA:=du.1;omega)
   rw[List.length_erase_of_mem hm] at h1;omega
  ·have h1:=LN N l hn (fun x hx=>by
    have:=h x hx;have aA:x≠(N:Int):=fun e=>hm (e▸hx);omega)
   omega
def ct (l:List Int):Int:=l.getD (l.length-1) 0
def iK (r:Realm)(q:Int)(l:List Int):Nat→List Int→List Int×Int
 |0,p=>(p,0)
 |n+1,p=>
  if(fb r (ct p) q l).1=ct p then(p,0)
  else if(fb r (ct p) q l).2=false∨(hasB p (fb r (ct p) q l).1=true∧(gX r (fb r (ct p) q l).1).accepts=true) then(p++[(fb r (ct p) q l).1],0)
  else if hasB p (fb r (ct p) q l).1=true then(p++[(fb r (ct p) q l).1],12)
  else iK r q l n (p++[(fb r (ct p) q l).1])
theorem EM (r:Realm)(q:Int)(l:List Int)(n:Nat)(p:List Int):iK r q l (n+1) p=
 if(fb r (ct p) q l).1=ct p then(p,0)
 else if(fb r (ct p) q l).2=false∨(hasB p (fb r (ct p) q l).1=true∧(gX r (fb r (ct p) q l).1).accepts=true) then(p++[(fb r (ct p) q l).1],0)
 else if hasB p (fb r (ct p) q l).1=true then(p++[(fb r (ct p) q l).1],12)
 else iK r q l n (p++[(fb r (ct p) q l).1]):=rfl
def cU (r:Realm)(a q:Int)(l:List Int):List Int×Int:=if jm r a q l=true∧l.getD 0 0=a then iK r q l r.orders.length [a] else([],1)
theorem ajk (r:Realm)(kP:vT r)(hn:r.orders.length≤100000)(a q:Int)(l:List Int)(hl:l.length≤100000):ak T 154 [aQ r,.int a,.int q,ints l] (.tup [ints (cU r a q l).1,.int (cU r a q l).2]):=by
 refine .of_tree rfl (lA 24 (by kernel_rfl)) axd ?_;simp[VB];refine⟨_,aai r a q l hl,?_⟩;cases hf:jm r a q l
 ·simp[cU,hf];rfl
 obtain⟨ha,uI,hx,pJ⟩:=Ar hf;have h0:0<l.length:=by omega
 by_cases uJ:l[0]=a
 ·have hE:cU r a q l=iK r q l r.orders.length [a]:=by unfold cU;rw[if_pos ⟨hf,by simp[h0,uJ]⟩]
  rw[hE];simp[h0,uJ,ints];refine aL.forLoop (α:=Nat×List Int) (fun s vr vo=>vr=[.list [],.int 0,.none]∧vo=[ints s.2]∧s.2.Nodup∧(∀x,x∈s.2→0≤x∧x<(r.orders.length:Int))∧s.2≠[]∧s.1+s.2.length=r.orders.length+1∧iK r q l s.1 s.2=iK r q l r.orders.length [a]) (fun s=>s.1) (r.orders.length,[a]) ?_ ?_
  ·simp[ints];exact ha
  ·rintro⟨n,p⟩ vr vo ⟨rfl,rfl,bX,bU,aA,hlen,sP⟩;simp only at*;have eO:p.length≤r.orders.length:=LN _ p bX bU;have AZ:0<p.length:=vX.mpr aA;obtain⟨m,rfl⟩:∃m,n=m+1:=⟨n-1,by omega⟩
   have ar:p.length-1<p.length:=by omega
   have gF:ct p=p[p.length-1]:=by simp[ct,ar]
   have ng:=bU _ (cv ar);rw[←gF] at ng;obtain⟨wV,fq,fu⟩:=NQ r kP (ct p) q l hl (pJ _ ng.1 ng.2);have xe:((p.length:Int)-1).toNat=p.length-1:=by omega
   have sX:IntKind.i64.wrap ((p.length:Int)-1)=(p.length:Int)-1:=aJ (by omega);rw[←sP,EM];obtain⟨L,hL⟩:∃L,L=fb r (ct p) q l:=⟨_,rfl⟩
   rw[←hL] at wV fq fu ⊢;obtain⟨to,whole⟩:=L;simp only at wV fq fu;have mz:to.toNat<r.orders.length:=by omega
   have xk:gX r to=r.orders[to.toNat]:=by simp[gX,mz]
   simp only[xk];simp[avy,TQ,sX,xe,ar,←gF,ints];refine⟨by omega,_,wV,?_⟩;by_cases h1:to=ct p
   ·simp[h1]
   simp[h1];refine⟨_,rV p to (by omega),by omega,?_⟩;cases whole
   ·simp
   cases h2:hasB p to
   ·have ed:to∉p:=fun hm=>by
     have:hasB p to=true:=by simp[hasB,hm]
     rw[h2] at this;cases this
    simp[h2];refine⟨m,by omega,p++[to],by simp,?_,?_,by simp,by simp;omega,rfl⟩
    ·exact Cs.mpr ⟨bX,by simp,fun x hx y hy=>by simp at hy;subst hy;exact fun e=>ed (e▸hx)⟩
    ·intro x hx;rcases da.mp hx with h|h
     ·exact bU x h
     ·simp at h;subst h;exact⟨fq,fu⟩
   ·cases h3:r.orders[to.toNat].accepts<;>simp[h2,h3,mz]<;>omega
 ·have hE:cU r a q l=([],1):=by unfold cU;rw[if_neg (by simp[h0,uJ])]
  rw[hE];simp[h0,uJ];rfl
end Rm
namespace Rm
open Go Go.Proofs Cx
def cZ (f:File)(i:Int):Sign:=f.signs.getD i.toNat default
def dR (r:Realm)(forum:Int)(c:Case):List Int:=[forum,cD r (cZ c.file c.sign).city,cD r c.file.bill.pay,cD r c.file.bill.city,cD r (r.firms.getD (cZ c.file c.sign).who.toNat default).city]
def iT (r:Realm)(forum:Int)(c:Case):Prop:=(cZ c.file c.sign).who<0∨(r.firms.length:Int)≤(cZ c.file c.sign).who∨forum<0∨(r.orders.length:Int)≤forum
instance (r:Realm) (forum:Int) (c:Case):Decidable (iT r forum c):=by unfold iT;infer_instance
def fh (r:Realm)(forum:Int)(c:Case):List Int:=if iT r forum c then[] else if hasB (dR r forum c) (-1)=true then[] else dR r forum c
@[simp] theorem aDG (r:Realm)(x:Int):yX (aQ r) x=cD r x:=by
  unfold yX cD ax;by_cases h:0≤x∧x<(r.cities.length:Int)
  ·have hx:x.toNat<r.cities.length:=by omega
   rw[if_pos (by simpa using h),if_pos (by simpa using h)];simp[hx]
  ·rw[if_neg (by simpa using h),if_neg (by simpa using h)]
theorem afU (r:Realm)(forum:Int)(c:Case)(h1:c.sign.toNat<c.file.signs.length):SW [aQ r,.int forum,eL c]=ints (fh r forum c):=by
 have hs:cZ c.file c.sign=c.file.signs[c.sign.toNat]:=by simp[cZ,h1]
 unfold SW fh;simp[h1];by_cases hb:iT r forum c
 ·rw[if_pos (by simpa [iT,hs] using hb),if_pos hb];rfl
 ·rw[if_neg (by simpa [iT,hs] using hb),if_neg hb];have xt:(cZ c.file c.sign).who.toNat<r.firms.length:=by unfold iT at hb;omega
  have acn:c.file.signs[c.sign.toNat].who.toNat<r.firms.length:=by rw[←hs];exact xt
  have kp:dR r forum c=[forum,cD r c.file.signs[c.sign.toNat].city,cD r c.file.bill.pay,cD r c.file.bill.city,cD r r.firms[c.file.signs[c.sign.toNat].who.toNat].city]:=by
   simp[dR,hs,acn]
  have cJ:∀l:List Int,hasB l (-1)=true↔-1∈l:=fun l=>by simp[hasB]
  rw[kp];simp[acn];split
  ·rename_i h;rw[if_pos ((cJ _).mpr (by simpa using h))];rfl
  ·rename_i h;rw[if_neg (fun h'=>h (by simpa using(cJ _).mp h'))]
theorem auq (r:Realm)(forum:Int)(c:Case)(h1:0≤c.sign∧c.sign<c.file.signs.length):ak T 153 [aQ r,.int forum,eL c] (ints (fh r forum c)):=by
 have cu:c.sign.toNat<c.file.signs.length:=by omega
 rw[←afU r forum c cu];have hs:cZ c.file c.sign=c.file.signs[c.sign.toNat]:=by simp[cZ,cu]
 refine ak.of_nsl rfl awZ aw0 ?_;rw[afU r forum c cu];by_cases hb:iT r forum c
 ·refine .inr ⟨by simp[fh,hb];rfl,?_⟩;have eu:=hb;simp[iT,hs] at eu;simp[Ni,h1,cu]
  intros;omega
 have qQ:fh r forum c=if hasB (dR r forum c) (-1)=true then[] else dR r forum c:=by unfold fh;rw[if_neg hb]
 have eu:=hb;simp[iT,hs] at eu;have hw:c.file.signs[c.sign.toNat].who.toNat<r.firms.length:=by omega
 have hC:=rV (dR r forum c) (-1) (by simp[dR]);cases hh:hasB (dR r forum c) (-1)<;>rw[hh] at hC<;>simp[dR,ints,hs,hw] at hC
 ·refine .inl ⟨(dR r forum c).map .int,by simp[dR],by rw[qQ,hh];rfl,?_⟩;simp[Vo,h1,cu,hw];rw[if_neg (by omega)];refine⟨_,qo r _,_,qo r _,_,qo r _,by omega,_,qo r _,_,by simpa using hC,?_⟩;simp[dR,hs,hw]
 ·refine .inr ⟨by rw[qQ,hh];rfl,?_⟩;simp[Ni,h1,cu,hw]
  intros
  refine⟨_,qo r _,_,qo r _,_,qo r _,by omega,_,qo r _,_,by simpa using hC,?_⟩;simp
end Rm
