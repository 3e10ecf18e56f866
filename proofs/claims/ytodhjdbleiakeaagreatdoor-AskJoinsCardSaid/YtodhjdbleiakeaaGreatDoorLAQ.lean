/-
  Shared texts of this claim.
-/
import Derived.Test.YtodhjdbleiakeaaGreatDoorLAP
import Derived.Lib.Mul64
set_option linter.unusedSimpArgs false
set_option linter.unusedVariables false
namespace Rm
open Go Go.Proofs Cx
def dS:List Int→Int
 |[]=>0
 |x::l=>if x=0 then dS l else x
theorem Ii:∀{l:List Int},dS l=0↔∀x,x∈l→x=0
 |[]=>by simp[dS]
 |x::l=>by
  simp only[dS,List.mem_cons,forall_eq_or_imp];by_cases h:x=0
  ·simp[h,Ii (l:=l)]
  ·simp[h]
def mD (r:Realm)(i:Nat):Bool:=aN (r.firms.getD i default).city r.cities.length&&aN (r.firms.getD i default).group r.groups.length
def kH (r:Realm)(i:Nat):Bool:=jZ r (r.cities.getD i default)
def lf (r:Realm)(i:Nat):Bool:=mV (r.orders.getD i default)
def rV (r:Realm)(i:Nat):Bool:=aN (r.groups.getD i default).grade 10
def qn (r:Realm):Int:=if 20<r.groups.length then 6 else if dH r.groups.length (rV r) then 0 else 1
def gq (r:Realm):Int:=dS [dz r.currencies 8 (fun _=>true),dz (dN r) 40 (kH r),qn r,dz (eh r) 200 (mD r),dz (dO r) 20 (lf r),rD r,lZ r]
theorem ahF (i:Int):ao T M2 [.int i] (.bool true):=by
 refine .of_tree rfl aeE av7 ?_;simp[QX]
theorem ahG (r:Realm)(h:Small r)(i:Nat)(hi:i<r.cities.length):ao T M3 [.int i,.ref (bm r)] (.bool (kH r i)):=by
 refine .of_tree rfl aeF av8 ?_;obtain⟨h1,h2,h3,h4⟩:=h.city _ (List.getElem_mem hi);simp[QY,hi,kH];exact at2 r r.cities[i] (by omega) (by omega) (by omega)
theorem ahH (r:Realm)(i:Nat)(hi:i<r.firms.length):ao T M4 [.int i,.ref (bm r)] (.bool (mD r i)):=by
 refine .of_tree rfl aeG av9 ?_;simp[QZ,hi,mD];refine⟨_,eM _ _,?_⟩;simp[hi];cases e1:aN r.firms[i].city r.cities.length<;>simp;exact eM _ _
theorem ahI (r:Realm)(h:Small r)(i:Nat)(hi:i<r.orders.length):ao T M5 [.int i,.ref (bm r)] (.bool (lf r i)):=by
 refine .of_tree rfl aeH awa ?_;obtain⟨h1,h2⟩:=h.order _ (List.getElem_mem hi);simp[Q0,hi,lf];exact at6 r.orders[i] (by omega) (by omega)
theorem abf (r:Realm)(h:Small r):ao T XV [bm r] (.int (gq r)):=by
 refine .of_tree rfl aeD awb ?_;have g1:=h.cur;have g2:=h.cities;have g3:=h.firms;have g4:=h.orders;have g5:=h.groups;simp[QW];refine⟨_,at5 r (by omega) (by omega) (by omega),?_⟩;simp;refine⟨_,H8 r.currencies 8 M2 [] (fun _=>true) (fun i _=>ahF _) (by omega),?_⟩;unfold gq;generalize e1:dz r.currencies 8 (fun _=>true)=x1;by_cases z1:x1=0
 case neg=>simp[z1,dS]
 simp[z1,dS];refine⟨_,H8 (dN r) 40 M3 [.ref (bm r)] (kH r) (fun i hi=>ahG r h i (by simpa [dN] using hi)) (by simp[dN];omega),?_⟩;generalize e2:dz (dN r) 40 (kH r)=x2;by_cases z2:x2=0
 case neg=>simp[z2]
 simp[z2];by_cases z3:20<r.groups.length
 ·have Sb:(20:Int)<r.groups.length:=by omega
  simp[Sb,qn,z3]
 have Sb:¬(20:Int)<r.groups.length:=by omega
 simp[Sb,qn,z3];refine eZ r.groups.length (rV r) (fun k=>[.int 0,.int k]) (fun _=>[]) ?_ (fun k hk ho=>?_) (fun k hk ho hb=>?_) (fun hj=>?_)
 ·simp
 ·have hw:=bu hk (by omega);simp[rV,hk] at ho;simp[Pa,Bn,hk];refine⟨_,eM _ _,?_⟩;simp[ho,hw]
 ·simp[rV,hk] at ho;rw[hb];simp[Pa,Bn,hk];refine⟨_,eM _ _,?_⟩;simp[ho]
 ·rw[hj];simp[Pa,Bn];refine⟨_,H8 (eh r) 200 M4 [.ref (bm r)] (mD r) (fun i hi=>ahH r i (by simpa [eh] using hi)) (by simp[eh];omega),?_⟩;generalize e4:dz (eh r) 200 (mD r)=x4;by_cases z4:x4=0
  case neg=>simp[z4]
  simp[z4];refine⟨_,H8 (dO r) 20 M5 [.ref (bm r)] (lf r) (fun i hi=>ahI r h i (by simpa [dO] using hi)) (by simp[dO];omega),?_⟩;generalize e5:dz (dO r) 20 (lf r)=x5;by_cases z5:x5=0
  case neg=>simp[z5]
  simp[z5];refine⟨_,aua r h,?_⟩;generalize e6:rD r=x6;by_cases z6:x6=0
  case neg=>simp[z6]
  simp[z6];have e7:(if lZ r=0 then 0 else lZ r)=lZ r:=by split<;>simp_all
  rw[e7];exact at7 r h
theorem ajr (l:List ByteArray)(k:Nat):ic l (fun _=>true) k=fE l k:=by
 unfold ic;by_cases h:fE l k=0<;>simp[h]
theorem uE {l:List ByteArray}{g:Nat→Bool}{k:Nat}(h:ic l g k=0):fE l k=0∧g k=true:=by
 unfold ic at h;by_cases h1:fE l k=0
 ·simp[h1] at h;exact⟨h1,h⟩
 ·simp[h1] at h
theorem Kq {l:List ByteArray}{g:Nat→Bool}{k:Nat}(h:ic l g k≠0):(fE l k≠0∧ic l g k=fE l k)∨(fE l k=0∧g k=false∧ic l g k=1):=by
 unfold ic at h ⊢;by_cases h1:fE l k=0
 ·simp[h1] at h ⊢;simp[h]
 ·simp[h1]
theorem aty (r:Realm)(h:Small r):ao T XJ [bm r] (.int (dS [dz r.currencies 8 (fun _=>true),dz (dN r) 40 (kH r)])):=by
 refine .of_tree rfl aer avV ?_;have g1:=h.cur;have g2:=h.cities;have g4:=h.orders;simp[QK];unfold dz;by_cases z1:(8:Int)<r.currencies.length
 ·simp[z1,dS]
 simp[z1,dS];refine rk r.currencies.length (ic r.currencies (fun _=>true)) (fun k=>[.int 0,.int k]) (fun _=>[]) ?_ (fun k hk ho=>?_) (fun k hk ho hb=>?_) (fun hj=>?_)
 ·simp
 ·have hw:=bu hk (by omega);simp[OZ,Bc,hk];refine⟨_,AX _ k hk (by omega),?_⟩;simp[(uE ho).1,hw]
 ·rw[hb];simp[OZ,Bc,hk,ho];rw[ajr];exact AX _ k hk (by omega)
 ·rw[hj];simp[OZ,Bc];have hlen:(dN r).length=r.cities.length:=by simp[dN]
  rw[hlen];by_cases z2:(40:Int)<r.cities.length
  ·simp[z2]
  simp[z2];have key:∀k (hk:k<r.cities.length),((dN r).take k).length=k∧D.list (List.take k (List.map str (dN r))++[str r.cities[k].name])=strs ((dN r).take (k+1))∧
     ao T Au [strs ((dN r).take (k+1)),.int k] (.int (fE (dN r) k))∧ao T M0 [bm r,fg r.cities[k]] (.bool (kH r k)):=by
   intro k hk;have bn:k<(dN r).length:=by omega
   have hg:(dN r)[k]=r.cities[k].name:=by simp[dN]
   have hs:(dN r).take (k+1)=(dN r).take k++[(dN r)[k]]:=List.take_succ_eq_append_getElem bn;have hn:=AX ((dN r).take (k+1)) k (by rw[List.length_take];omega) (by rw[List.length_take];omega);rw[No _ _ _ (by omega)] at hn;obtain⟨c1,c2,c3,c4⟩:=h.city _ (List.getElem_mem hk);have hc:=atw r r.cities[k] (by omega) (by omega) (by omega) (by omega) (by omega) c4;rw[ahQ] at hc;exact⟨by rw[List.length_take];omega,by rw[hs,hg];simp[strs],hn,by simpa [kH,hk] using hc⟩
  refine rk r.cities.length (ic (dN r) (kH r)) (fun k=>[.int 0,.none,.int k]) (fun k=>[strs ((dN r).take k)]) ?_ (fun k hk ho=>?_) (fun k hk ho hb=>?_) (fun hj=>?_)
  ·simp[strs]
  ·have hw:=bu hk (by omega);obtain⟨hl,dJ,hn,hc⟩:=key k hk;obtain⟨o1,o2⟩:=uE ho;rw[o1] at hn;rw[o2] at hc;simp[O0,Bd,hk,hl,dJ,auQ];refine⟨by omega,_,hn,?_⟩;simp[hk];refine⟨_,hc,?_⟩;simp[hw]
  ·rw[hb];obtain⟨hl,dJ,hn,hc⟩:=key k hk;simp[O0,Bd,hk,hl,dJ,ho];refine⟨by omega,_,hn,?_⟩;rcases Kq ho with⟨o1,o2⟩|⟨o1,o2,o3⟩
   ·simp[o1,o2]
   ·rw[o2] at hc;simp[o1,o3,hk];refine⟨_,hc,?_⟩;simp
  ·rw[hj];simp[O0,Bd]
theorem atz (r:Realm)(h:Small r):ao T XK [bm r] (.int (dS [qn r,dz (eh r) 200 (mD r)])):=by
 refine .of_tree rfl aes avW ?_;have g1:=h.groups;have g2:=h.firms;have g3:=h.cities;have w3:=oy r.cities.length (by omega);have w1:=oy r.groups.length (by omega);simp[QL];by_cases z1:20<r.groups.length
 ·have Sa:(20:Int)<r.groups.length:=by omega
  simp[Sa,qn,z1,dS]
 have Sa:¬(20:Int)<r.groups.length:=by omega
 simp[Sa,qn,z1,dS];refine eZ r.groups.length (rV r) (fun k=>[.int 0,.int k]) (fun _=>[]) ?_ (fun k hk ho=>?_) (fun k hk ho hb=>?_) (fun hj=>?_)
 ·simp
 ·have hw:=bu hk (by omega);simp[rV,hk] at ho;have e:wi r.groups[k].grade 0 9=aN r.groups[k].grade 10:=by rw[Bool.eq_iff_iff];simp[wi,aN];omega
  simp[O1,Be,hk];refine⟨_,ct _ _ _,?_⟩;simp[e,ho,hw]
 ·simp[rV,hk] at ho;have e:wi r.groups[k].grade 0 9=aN r.groups[k].grade 10:=by rw[Bool.eq_iff_iff];simp[wi,aN];omega
  rw[hb];simp[O1,Be,hk];refine⟨_,ct _ _ _,?_⟩;simp[e,ho]
 ·rw[hj];simp[O1,Be];unfold dz;have hlen:(eh r).length=r.firms.length:=by simp[eh]
  rw[hlen];by_cases z2:(200:Int)<r.firms.length
  ·simp[z2]
  simp[z2];have key:∀k (hk:k<r.firms.length),((eh r).take k).length=k∧D.list (List.take k (List.map str (eh r))++[str r.firms[k].name])=strs ((eh r).take (k+1))∧
     ao T Au [strs ((eh r).take (k+1)),.int k] (.int (fE (eh r) k))∧mD r k=(wi r.firms[k].city 0 ((r.cities.length:Int)-1)&&wi r.firms[k].group 0 ((r.groups.length:Int)-1)):=by
   intro k hk;have bn:k<(eh r).length:=by omega
   have hg:(eh r)[k]=r.firms[k].name:=by simp[eh]
   have hs:(eh r).take (k+1)=(eh r).take k++[(eh r)[k]]:=List.take_succ_eq_append_getElem bn;have hn:=AX ((eh r).take (k+1)) k (by rw[List.length_take];omega) (by rw[List.length_take];omega);rw[No _ _ _ (by omega)] at hn;exact⟨by rw[List.length_take];omega,by rw[hs,hg];simp[strs],hn,by simp[mD,hk,sP]⟩
  refine rk r.firms.length (ic (eh r) (mD r)) (fun k=>[.int 0,.none,.int k]) (fun k=>[strs ((eh r).take k)]) ?_ (fun k hk ho=>?_) (fun k hk ho hb=>?_) (fun hj=>?_)
  ·simp[strs]
  ·have hw:=bu hk (by omega);obtain⟨hl,dJ,hn,hc⟩:=key k hk;obtain⟨o1,o2⟩:=uE ho;rw[o1] at hn;rw[o2] at hc;have KO:=Bool.and_eq_true_iff.1 hc.symm;simp[O2,Bf,hk,hl,dJ];refine⟨by omega,_,hn,?_⟩;simp[hk,w3];refine⟨_,ct _ _ _,?_⟩;simp[KO.1,hk,w1];refine⟨_,ct _ _ _,?_⟩;simp[KO.2,hw]
  ·rw[hb];obtain⟨hl,dJ,hn,hc⟩:=key k hk;simp[O2,Bf,hk,hl,dJ,ho];refine⟨by omega,_,hn,?_⟩;rcases Kq ho with⟨o1,o2⟩|⟨o1,o2,o3⟩
   ·simp[o1,o2]
   ·rw[o2] at hc;simp[o1,o3,hk,w3];refine⟨_,ct _ _ _,?_⟩;cases e1:wi r.firms[k].city 0 ((r.cities.length:Int)-1)
    ·simp
    rw[e1,Bool.true_and] at hc;simp[hk,w1];refine⟨_,ct _ _ _,?_⟩;simp[←hc]
  ·rw[hj];simp[O2,Bf]
theorem atA (r:Realm)(h:Small r):ao T XL [bm r] (.int (dz (dO r) 20 (lf r))):=by
 refine .of_tree rfl aeu avY ?_;have g2:=h.orders;simp[QN];unfold dz;have hlen:(dO r).length=r.orders.length:=by simp[dO]
 rw[hlen];by_cases z2:(20:Int)<r.orders.length
 ·simp[z2]
 simp[z2];have key:∀k (hk:k<r.orders.length),((dO r).take k).length=k∧D.list (List.take k (List.map str (dO r))++[str r.orders[k].name])=strs ((dO r).take (k+1))∧
  ao T Au [strs ((dO r).take (k+1)),.int k] (.int (fE (dO r) k))∧ao T M1 [gr r.orders[k]] (.bool (lf r k)):=by
  intro k hk;have bn:k<(dO r).length:=by omega
  have hg:(dO r)[k]=r.orders[k].name:=by simp[dO]
  have hs:(dO r).take (k+1)=(dO r).take k++[(dO r)[k]]:=List.take_succ_eq_append_getElem bn;have hn:=AX ((dO r).take (k+1)) k (by rw[List.length_take];omega) (by rw[List.length_take];omega);rw[No _ _ _ (by omega)] at hn;obtain⟨c1,c2⟩:=h.order _ (List.getElem_mem hk);exact⟨by rw[List.length_take];omega,by rw[hs,hg];simp[strs],hn,by simpa [lf,hk] using atx r.orders[k] (by omega) (by omega)⟩
 refine rk r.orders.length (ic (dO r) (lf r)) (fun k=>[.int 0,.none,.int k]) (fun k=>[strs ((dO r).take k)]) ?_ (fun k hk ho=>?_) (fun k hk ho hb=>?_) (fun hj=>?_)
 ·simp[strs]
 ·have hw:=bu hk (by omega);obtain⟨hl,dJ,hn,hc⟩:=key k hk;obtain⟨o1,o2⟩:=uE ho;rw[o1] at hn;rw[o2] at hc;simp[O3,Bg,hk,hl,dJ];refine⟨by omega,_,hn,?_⟩;simp[hk];refine⟨_,hc,?_⟩;simp[hw]
 ·rw[hb];obtain⟨hl,dJ,hn,hc⟩:=key k hk;simp[O3,Bg,hk,hl,dJ,ho];refine⟨by omega,_,hn,?_⟩;rcases Kq ho with⟨o1,o2⟩|⟨o1,o2,o3⟩
  ·simp[o1,o2]
  ·rw[o2] at hc;simp[o1,o3,hk];refine⟨_,hc,?_⟩;simp
 ·rw[hj];simp[O3,Bg]
theorem att (r:Realm)(h:Small r):ao T XD [bm r] (.int (gq r)):=by
 refine .of_tree rfl aej avN ?_
 have e:gq r=dS [dS [dz r.currencies 8 (fun _=>true),dz (dN r) 40 (kH r)],dS [qn r,dz (eh r) 200 (mD r)],dz (dO r) 20 (lf r),rD r,lZ r]:=by
  unfold gq;simp only[dS];split<;>(try split)<;>(try split)<;>(try split)<;>simp_all
 rw[e];simp[QC];refine⟨_,aty r h,?_⟩;have h1:=atz r h;generalize dS [dz r.currencies 8 (fun _=>true),dz (dN r) 40 (kH r)]=x1 at*;generalize dS [qn r,dz (eh r) 200 (mD r)]=x2 at*;have h2:=atA r h;generalize dz (dO r) 20 (lf r)=x3 at*;have h3:=atC r h;generalize rD r=x4 at*;have h4:=atB r h;generalize lZ r=x5 at*;by_cases z1:x1=0
 case neg=>simp[z1,dS]
 simp[z1,dS];refine⟨_,h1,?_⟩;by_cases z2:x2=0
 case neg=>simp[z2]
 simp[z2];refine⟨_,h2,?_⟩;by_cases z3:x3=0
 case neg=>simp[z3]
 simp[z3];refine⟨_,h3,?_⟩;by_cases z4:x4=0
 case neg=>simp[z4]
 simp[z4];have e7:(if x5=0 then 0 else x5)=x5:=by split<;>simp_all
 rw[e7];exact h4
end Rm
namespace Rm
open Go Go.Proofs Cx
def hG:Nat→Tm→Int→Int
 |0,_,_=>-1
 |L+1,t,n=>t.args.foldl (fun m a=>if 0≤m then hG L a m else m) (n-1)
theorem size_le:∀(L:Nat) (t:Tm) (n:Int),0≤n→-1≤hG L t n∧hG L t n≤n
 |0,t,n,h=>by simp[hG];omega
 |L+1,t,n,h=>by
  have key:∀(l:List Tm) (m:Int),-1≤m→m≤n→-1≤l.foldl (fun m a=>if 0≤m then hG L a m else m) m∧l.foldl (fun m a=>if 0≤m then hG L a m else m) m≤n:=by
   intro l
   induction l with
   |nil=>intro m h1 h2;exact⟨h1,h2⟩
   |cons a l ih=>
    intro m h1 h2;simp only[List.foldl_cons];split
    ·rename_i hm;have:=size_le L a m hm;exact ih _ this.1 (by omega)
    ·exact ih _ h1 h2
  exact key _ _ (by omega) (by omega)
theorem abM (L:Nat):∀(l:List Tm) (m:Int),m<0→l.foldl (fun m a=>if 0≤m then hG L a m else m) m=m
 |[],m,h=>rfl
 |a::l,m,h=>by simp only[List.foldl_cons];rw[if_neg (by omega)];exact abM L l m h
theorem alE {α β:Type}(f:β→α→β)(b:β){l:List α}{k:Nat}(h:k<l.length):(l.take (k+1)).foldl f b=f ((l.take k).foldl f b) l[k]:=by
 rw[List.take_succ_eq_append_getElem h,List.foldl_append];rfl
theorem alD {α β:Type}(f:β→α→β)(b:β)(l:List α)(k:Nat):l.foldl f b=(l.drop k).foldl f ((l.take k).foldl f b):=by
 rw[←List.foldl_append,List.take_append_drop]
theorem _root_.Cx.Tm.OK.len {t:Tm}(h:t.OK):t.args.length≤9223372036854775807:=by cases h with|mk o n xs h1 h2 h3 h4=>exact h3
theorem _root_.Cx.Tm.OK.arg {t:Tm}(h:t.OK){a:Tm}(ha:a∈t.args):a.OK:=by cases h with|mk o n xs h1 h2 h3 h4=>exact h4 a ha
theorem aaM:∀(L:Nat) (t:Tm) (n:Int),t.OK→0≤n→n≤1000→L≤1000→ao T XR [de t,.int n,.int L] (.int (hG L t n))
 |0,t,n,ht,h0,h1,hL=>by
  refine .of_tree rfl SI ab1 ?_;simp[IE,hG]
 |L+1,t,n,ht,h0,h1,hL=>by
  refine .of_tree rfl SI ab1 ?_;have nM:IntKind.i64.wrap (n-1)=n-1:=cC (by omega);have hl:=ht.len;have jC:¬((L:Int)+1<1):=by omega
  simp[IE,nM,jC]
  let g:Nat→Int:=fun k=>(t.args.take k).foldl (fun m a=>if 0≤m then hG L a m else m) (n-1)
  have gb:∀k,-1≤g k∧g k≤1000:=by
   intro k;have:g k=hG (L+1) (.mk 0 0 (t.args.take k)) n:=rfl;have:=size_le (L+1) (.mk 0 0 (t.args.take k)) n h0;omega
  refine .scan t.args.length (fun k=>0≤g k) (fun k=>[.int (g k),.int k]) (fun _=>[]) ?_ (fun k hk hj ho=>?_) (fun k hk hj ho=>?_) (fun hj=>?_)
  ·simp[g,nM]
  ·have hw:IntKind.i64.wrap ((k:Int)+1)=(k:Int)+1:=cC (by omega);have EH:IntKind.i64.wrap (L:Int)=(L:Int):=cC (by omega);have hg:g (k+1)=hG L t.args[k] (g k):=by
    show(t.args.take (k+1)).foldl _ _=_;rw[alE _ _ hk];show(if 0≤g k then _ else _)=_;rw[if_pos ho]
   rw[hg];have gj:=aaM L t.args[k] (g k) (ht.arg (List.getElem_mem hk)) ho (gb k).2 (by omega);generalize g k=m at*;simp[O7,Bk,hk,ho,EH];refine⟨_,gj,?_⟩;simp[hw]
  ·have hf:hG (L+1) t n=g k:=by
    show t.args.foldl _ _=_;rw[alD _ _ _ k];exact abM L _ _ (by show g k<0;omega)
   rw[hf];generalize g k=m at*;simp[O7,Bk,hk,ho]
  ·have hf:hG (L+1) t n=g t.args.length:=by
    show t.args.foldl _ _=(t.args.take t.args.length).foldl _ _;rw[List.take_length]
   rw[hf];generalize g t.args.length=m at*;simp[O7,Bk]
theorem aaL (t:Tm)(ht:t.OK):ao T XP [de t] (.bool (decide (0≤hG 20 t 100))):=by
 refine .of_tree rfl aey av2 ?_;simp[QR];refine⟨_,aaM 20 t 100 ht (by omega) (by omega) (by omega),?_⟩;simp
def nz (o:Order):Bool:=(decide (o.rules.length≤60)&&decide (o.choices.length≤60))&&dH o.rules.length (fun k=>decide (0≤hG 20 (o.rules.getD k default).term 100))
theorem aaN (o:Order)(ho:o.OK):ao T XS [gr o] (.bool (nz o)):=by
 refine .of_tree rfl aeA av4 ?_;simp[QT];by_cases h1:(o.rules.length:Int)≤60
 case neg=>
  have cB:(60:Int)<o.rules.length:=by omega
  have hf:nz o=false:=by
   have:decide (o.rules.length≤60)=false:=decide_eq_false (by omega);simp only[nz,this,Bool.false_and]
  simp[cB,hf]
 by_cases h2:(o.choices.length:Int)≤60
 case neg=>
  have cB:(60:Int)<o.choices.length:=by omega
  have hf:nz o=false:=by
   have:decide (o.choices.length≤60)=false:=decide_eq_false (by omega);simp only[nz,this,Bool.false_and,Bool.and_false]
  simp[cB,hf]
 have cB:¬(60:Int)<o.rules.length:=by omega
 have jA:¬(60:Int)<o.choices.length:=by omega
 have hf:nz o=dH o.rules.length (fun k=>decide (0≤hG 20 (o.rules.getD k default).term 100)):=by
  have e1:decide (o.rules.length≤60)=true:=decide_eq_true (by omega);have e2:decide (o.choices.length≤60)=true:=decide_eq_true (by omega);simp only[nz,e1,e2,Bool.true_and]
 rw[hf];simp[cB,jA];have hO:=ho.2.2;refine eZ o.rules.length (fun k=>decide (0≤hG 20 (o.rules.getD k default).term 100)) (fun k=>[.bool false,.int k]) (fun _=>[]) ?_ (fun k hk ho=>?_) (fun k hk ho hb=>?_) (fun hj=>?_)
 ·simp
 ·have hw:=bu hk (by omega);simp[hk] at ho;simp[O8,Bl,hk];refine⟨_,aaL _ (hO _ (List.getElem_mem hk)).2,?_⟩;simp[ho,hw]
 ·simp only[List.getD_eq_getElem?_getD] at hb;rw[hb];simp[hk] at ho;simp[O8,Bl,hk];refine⟨_,aaL _ (hO _ (List.getElem_mem hk)).2,?_⟩;simp[ho]
 ·simp only[List.getD_eq_getElem?_getD] at hj;rw[hj];simp[O8,Bl]
def y2 (f:File):Bool:=decide ((f.signs.length:Int)≤50)&&decide ((f.alters.length:Int)≤10)&&decide ((f.acts.length:Int)≤110)&&decide ((f.facts.length:Int)≤220)
theorem atD (f:File):ao T XO [fh f] (.bool (y2 f)):=by
 refine .of_tree rfl aex av1 ?_;simp[QQ,y2];by_cases h1:(f.signs.length:Int)≤50<;>by_cases h2:(f.alters.length:Int)≤10<;>by_cases h3:(f.acts.length:Int)≤110<;>by_cases h4:(f.facts.length:Int)≤220<;>
  simp[h1,h2,h3,h4]
end Rm
namespace Rm
open Go Go.Proofs Cx
def y0 (r:Realm)(k:Nat):Bool:=decide (((r.cities.getD k default).feasts.length:Int)≤70)&&decide (((r.cities.getD k default).shut.length:Int)≤210)&&decide (((r.cities.getD k default).rest.length:Int)≤8)
def y1 (r:Realm)(k:Nat):Bool:=decide (((r.orders.getD k default).choices.length:Int)≤40)&&decide (((r.orders.getD k default).rules.length:Int)≤40)
def DF (r:Realm):Bool:=decide ((r.currencies.length:Int)<50)&&decide ((r.cities.length:Int)<50)&&decide ((r.groups.length:Int)<50)&&decide ((r.firms.length:Int)<210)&&decide ((r.orders.length:Int)<50)&&decide ((r.usances.length:Int)<110)&&decide ((r.rates.length:Int)<110)&&decide ((r.halts.length:Int)<50)
def mC (r:Realm):Bool:=dH (min r.cities.length 50) (y0 r)&&dH (min r.orders.length 50) (y1 r)&&DF r
theorem atu (r:Realm)(hr:r.OK):ao T XE [bm r] (.bool (mC r)):=by
 refine .of_tree rfl aek avO ?_;simp[QD];refine eZ (min r.cities.length 50) (y0 r) (fun k=>[.bool false,.int k]) (fun _=>[]) ?_ (fun k hk ho=>?_) (fun k hk ho hb=>?_) (fun hj=>?_)
 ·simp
 ·have bB:k<r.cities.length:=by omega
  have cD:k<50:=by omega
  have hw:=bu cD (by omega);simp[y0,bB] at ho;obtain⟨⟨a1,a2⟩,a3⟩:=ho;have b1:¬(70:Int)<r.cities[k].feasts.length:=by omega
  have b2:¬(210:Int)<r.cities[k].shut.length:=by omega
  have b3:¬(8:Int)<r.cities[k].rest.length:=by omega
  simp[A6,tI,bB,cD,hw,b1,b2,b3];omega
 ·have bB:k<r.cities.length:=by omega
  have cD:k<50:=by omega
  have hf:mC r=false:=by simp only[mC,hb,Bool.false_and]
  rw[hf];simp[y0,bB] at ho;by_cases b1:(70:Int)<r.cities[k].feasts.length
  ·simp[A6,tI,bB,cD,b1];omega
  by_cases b2:(210:Int)<r.cities[k].shut.length
  ·simp[A6,tI,bB,cD,b1,b2];omega
  have b3:(8:Int)<r.cities[k].rest.length:=by have:=ho (by omega) (by omega);omega
  simp[A6,tI,bB,cD,b1,b2,b3];omega
 ·have hn:¬((min r.cities.length 50:Nat):Int)<r.cities.length∨¬((min r.cities.length 50:Nat):Int)<50:=by omega
  simp[A6,tI];rw[if_neg (by omega)];refine eZ (min r.orders.length 50) (y1 r) (fun k=>[.bool false,.int k]) (fun _=>[]) ?_ (fun k hk ho=>?_) (fun k hk ho hb=>?_) (fun hj2=>?_)
  ·simp
  ·have bB:k<r.orders.length:=by omega
   have cD:k<50:=by omega
   have hw:=bu cD (by omega);simp[y1,bB] at ho;obtain⟨a1,a2⟩:=ho;have b1:¬(40:Int)<r.orders[k].choices.length:=by omega
   have b2:¬(40:Int)<r.orders[k].rules.length:=by omega
   simp[HS,wD,bB,cD,hw,b1,b2];omega
  ·have bB:k<r.orders.length:=by omega
   have cD:k<50:=by omega
   have hf:mC r=false:=by simp only[mC,hb,Bool.false_and,Bool.and_false]
   rw[hf];simp[y1,bB] at ho;by_cases b1:(40:Int)<r.orders[k].choices.length
   ·simp[HS,wD,bB,cD,b1];omega
   have b2:(40:Int)<r.orders[k].rules.length:=by have:=ho (by omega);omega
   simp[HS,wD,bB,cD,b1,b2];omega
  ·have hf:mC r=DF r:=by simp only[mC,hj,hj2,Bool.true_and]
   rw[hf];simp[HS,wD];rw[if_neg (by omega)];unfold DF;by_cases c1:(r.currencies.length:Int)<50<;>simp[c1];by_cases c2:(r.cities.length:Int)<50<;>simp[c2];by_cases c3:(r.groups.length:Int)<50<;>simp[c3];by_cases c4:(r.firms.length:Int)<210<;>simp[c4];by_cases c5:(r.orders.length:Int)<50<;>simp[c5];by_cases c6:(r.usances.length:Int)<110<;>simp[c6];by_cases c7:(r.rates.length:Int)<110<;>simp[c7]
theorem Km {r:Realm}(hr:r.OK)(h:mC r=true):Small r:=by
 simp only[mC,DF,Bool.and_eq_true,decide_eq_true_eq,uc] at h;obtain⟨⟨h1,h2⟩,⟨⟨⟨⟨⟨⟨⟨c1,c2⟩,c3⟩,c4⟩,c5⟩,c6⟩,c7⟩,c8⟩⟩:=h;obtain⟨k1,⟨k2,k2'⟩,⟨k3,k3'⟩,⟨k4,k4'⟩,⟨k5,k5'⟩,⟨k6,k6'⟩,⟨k7,k7'⟩,⟨k8,k8'⟩⟩:=hr;refine⟨by omega,by omega,by omega,by omega,by omega,by omega,by omega,by omega,fun c hc=>?_,fun o ho=>?_,fun x hx=>?_⟩
 ·obtain⟨k,hk,rfl⟩:=List.getElem_of_mem hc;have:=h1 k (by omega);simp[y0,hk] at this;have:=k2' _ hc;exact⟨by omega,by omega,by omega,fun y hy=>this.2.2.2.1.2 y hy⟩
 ·obtain⟨k,hk,rfl⟩:=List.getElem_of_mem ho;have:=h2 k (by omega);simp[y1,hk] at this;omega
 ·have:=k7' x hx;exact⟨this.2.2.1,this.2.2.2.1⟩
def oR (r:Realm)(f:File):Bool:=(mC r&&y2 f)&&dH r.orders.length (fun k=>nz (r.orders.getD k default))
theorem atE (r:Realm)(f:File)(hr:r.OK):ao T XT [bm r,fh f] (.bool (oR r f)):=by
 refine .of_tree rfl aeB av5 ?_;simp[QU];refine⟨_,atu r hr,?_⟩;cases e1:mC r
 ·simp[oR,e1]
 simp;refine⟨_,atD f,?_⟩;cases e2:y2 f
 ·simp[oR,e1,e2]
 have hs:=Km hr e1;have ho:=hs.orders;have hf:oR r f=dH r.orders.length (fun k=>nz (r.orders.getD k default)):=by simp only[oR,e1,e2,Bool.true_and]
 rw[hf];simp;have hO:=hr.2.2.2.2.1.2;refine eZ r.orders.length (fun k=>nz (r.orders.getD k default)) (fun k=>[.bool false,.int k]) (fun _=>[]) ?_ (fun k hk ho=>?_) (fun k hk ho hb=>?_) (fun hj=>?_)
 ·simp
 ·have hw:=bu hk (by omega);simp[hk] at ho;simp[O9,Bm,hk];refine⟨_,aaN _ (hO _ (List.getElem_mem hk)),?_⟩;simp[ho,hw]
 ·simp only[List.getD_eq_getElem?_getD] at hb;rw[hb];simp[hk] at ho;simp[O9,Bm,hk];refine⟨_,aaN _ (hO _ (List.getElem_mem hk)),?_⟩;simp[ho]
 ·simp only[List.getD_eq_getElem?_getD] at hj;rw[hj];simp[O9,Bm]
def rU (r:Realm)(f:File):Bool:=oR r f&&decide (gq r=0)
def mw (n:Int):Int:=min (max n (-1099511627776)) 1099511627776
theorem Iw (n:Int):ao T Yv [.int n] (.int (mw n)):=by
 refine .of_tree rfl afk awW ?_;simp[RH,mw];by_cases h1:-1099511627776>n
 ·have:¬(1099511627776:Int)< -1099511627776:=by omega
  simp[h1];omega
 ·by_cases h2:(1099511627776:Int)<n
  ·simp[h1,h2];omega
  ·simp[h1,h2];omega
def kA (v:Int):Int×Bool:=if v<0∨19<v then(0,false) else if v<7 then(0,true) else(1,true)
theorem abU (v:Int):ao T Ng [.int v] (.tup [.int (kA v).1,.bool (kA v).2]):=by
 refine .of_tree rfl SP awS ?_;simp[RD,kA];by_cases h1:v<0
 ·simp[h1]
 by_cases h2:19<v
 ·simp[h1,h2]
 by_cases h3:v<7
 ·simp[h1,h2,h3]
 ·simp[h1,h2,h3]
def An (t:Tm):Int×Int:=
 if 0<t.args.length then(0,2) else if t.op=0 then(if mw t.n≠t.n then(0,3) else(0,0)) else if t.op=1 then(if t.n<0∨1<t.n then(0,3) else(1,0)) else if(kA t.n).2=false then(0,10) else((kA t.n).1,0)
theorem au0 (t:Tm):ao T Nj [de t] (.tup [.int (An t).1,.int (An t).2]):=by
 refine .of_tree rfl SS awX ?_;simp[RI,An];by_cases h0:0<t.args.length
 ·have eO:(0:Int)<t.args.length:=by omega
  simp[h0,eO]
 simp[h0];by_cases h1:t.op=0
 ·simp[h1];refine⟨_,Iw _,?_⟩;by_cases h2:mw t.n=t.n<;>simp[h2]
 by_cases h2:t.op=1
 ·simp[h1,h2];by_cases h3:t.n<0<;>by_cases h4:1<t.n<;>simp[h3,h4]
 simp[h1,h2];refine⟨_,abU _,?_⟩;cases h3:(kA t.n).2<;>simp[h3]
def dT (op:Int):List Int×Int:=
 if op=3 then([1],1) else if op=4∨op=5 then([1,1],1) else if op=6 then([1,-1,-1],-1) else if op=7 then([0,0],1) else if op=8 then([-1,-1],1) else([0,0],0)
def yX (s:List Int×Int):D:=.agg [ints s.1,.int s.2]
@[simp] theorem azb (s:List Int×Int):(yX s).cells=[ints s.1,.int s.2]:=_root_.id rfl
@[simp] theorem ay9 (s:List Int×Int):(yX s).c 0=ints s.1:=_root_.id rfl
@[simp] theorem aza (s:List Int×Int):(yX s).c 1=.int s.2:=_root_.id rfl
@[simp] theorem aCD (s:List Int×Int):D.agg [ints s.1,.int s.2]=yX s:=_root_.id rfl
@[simp] theorem aDH (x y:Int):ru (.int x) 0 (.int y)=.int y:=_root_.id rfl
theorem au2 (op:Int):ao T Nm [.int op] (yX (dT op)):=by
 refine .of_tree rfl SW aw1 ?_;simp[RL,dT];by_cases h3:op=3
 ·simp[h3];rfl
 by_cases h4:op=4
 ·simp[h4];rfl
 by_cases h5:op=5
 ·simp[h5];rfl
 by_cases h6:op=6
 ·simp[h6];rfl
 by_cases h7:op=7
 ·simp[h7];rfl
 by_cases h8:op=8
 ·simp[h8];rfl
 simp[h3,h4,h5,h6,h7,h8];rfl
end Rm
namespace Rm
open Go Go.Proofs Cx
def eI (f:Tm→Int):List Tm→Int→Int
 |[],n=>n
 |a::l,n=>if 60<n+f a then n+f a else eI f l (n+f a)
def cr:Nat→Tm→Int
 |0,_=>61
 |L+1,t=>eI (cr L) t.args 1
def dg (f:Tm→Int)(l:List Tm):Int:=(l.map f).sum
theorem E0 {f:Tm→Int}{l:List Tm}{k:Nat}(h:k<l.length):dg f (l.take (k+1))=dg f (l.take k)+f l[k]:=by
 unfold dg;rw[wR f h,List.sum_append];simp
theorem WT {f:Tm→Int}:∀{l:List Tm} {n:Int} {k:Nat},(hk:k<l.length)→(∀j,j<k→n+dg f (l.take (j+1))≤60)→60<n+dg f (l.take (k+1))→eI f l n=n+dg f (l.take (k+1))
 |a::l,n,0,hk,_,h=>by
  simp[dg] at h ⊢;unfold eI;rw[if_pos (by omega)]
 |a::l,n,k+1,hk,hj,h=>by
  have h0:=hj 0 (by omega);simp[dg] at h0;unfold eI;rw[if_neg (by omega)];have e:∀j,n+dg f ((a::l).take (j+1+1))=n+f a+dg f (l.take (j+1)):=by intro j;simp[dg];omega
  rw[WT (l:=l) (k:=k) (by simpa using hk) (fun j Eh=>by have:=hj (j+1) (by omega);rw[e] at this;exact this) (by rw[←e];exact h),e]
theorem WV {f:Tm→Int}:∀{l:List Tm} {n:Int},(∀j,j<l.length→n+dg f (l.take (j+1))≤60)→eI f l n=n+dg f l
 |[],n,_=>by simp[eI,dg]
 |a::l,n,hj=>by
  have h0:=hj 0 (by simp);simp[dg] at h0;unfold eI;rw[if_neg (by omega)];have e:∀j,n+dg f ((a::l).take (j+1+1))=n+f a+dg f (l.take (j+1)):=by intro j;simp[dg];omega
  rw[WV (l:=l) (fun j eR=>by have:=hj (j+1) (by simpa using eR);rw[e] at this;exact this)];simp[dg];omega
theorem WU {f:Tm→Int}(hf:∀a,1≤f a):∀{l:List Tm} {n:Int},n≤eI f l n
 |[],n=>by simp[eI]
 |a::l,n=>by
  unfold eI;have:=hf a;split
  ·omega
  ·have:=WU hf (l:=l) (n:=n+f a);omega
theorem sZ:∀(L:Nat) (t:Tm),1≤cr L t
 |0,t=>by simp[cr]
 |L+1,t=>WU (sZ L)
theorem WW {f:Tm→Int}{B:Int}(hf:∀a,f a≤B)(hB:0≤B):∀{l:List Tm} {n:Int},n≤60→eI f l n≤60+B
 |[],n,h=>by simp[eI];omega
 |a::l,n,h=>by
  unfold eI;have:=hf a;split
  ·omega
  ·exact WW hf hB (by omega)
theorem WY:∀(L:Nat) (t:Tm),cr L t≤61+60*L
 |0,t=>by simp[cr]
 |L+1,t=>by
  have:=WW (f:=cr L) (fun a=>WY L a) (by omega) (l:=t.args) (n:=1) (by omega);show eI _ _ _≤_;omega
theorem WX {f:Tm→Int}(hf:∀a,1≤f a):∀{l:List Tm} {n:Int},eI f l n≤60→(n:Int)+l.length≤60∧∀a,a∈l→f a≤60-n
 |[],n,h=>by simp[eI] at h ⊢;exact h
 |a::l,n,h=>by
  unfold eI at h;have:=hf a;split at h
  ·omega
  ·obtain⟨h1,h2⟩:=WX hf h;refine⟨by simp;omega,fun b hb=>?_⟩;rcases List.mem_cons.1 hb with rfl|hb
   ·omega
   ·have:=h2 b hb;omega
theorem MS {L:Nat}{t:Tm}(h:cr (L+1) t≤60):t.args.length≤59∧∀a,a∈t.args→cr L a≤60:=by
 obtain⟨h1,h2⟩:=WX (sZ L) h;exact⟨by omega,fun a ha=>by have:=h2 a ha;omega⟩
theorem P3:∀(L:Nat) (t:Tm) (lv:Int),t.OK→L≤8→lv=9-(L:Int)→ao T Nl [de t,.int lv] (.int (cr L t))
 |0,t,lv,ht,hL,K9=>by
  refine .of_tree rfl Jd ab3 ?_;subst K9;simp[II,cr]
 |L+1,t,lv,ht,hL,K9=>by
  refine .of_tree rfl Jd ab3 ?_;have hl:=ht.len;have h8:¬(8<lv):=by omega
  have EH:IntKind.i64.wrap (lv+1)=lv+1:=cC (by omega);simp[II,h8];refine .scan t.args.length (fun k=>1+dg (cr L) (t.args.take (k+1))≤60) (fun k=>[.int (1+dg (cr L) (t.args.take k)),.int k]) (fun _=>[]) ?_ (fun k hk hj ho=>?_) (fun k hk hj ho=>?_) (fun hj=>?_)
  ·simp[dg]
  all_goals try rw[E0 hk] at ho
  ·have hw:IntKind.i64.wrap ((k:Int)+1)=(k:Int)+1:=cC (by omega);have gj:=P3 L t.args[k] (lv+1) (ht.arg (List.getElem_mem hk)) (by omega) (by omega);rw[E0 hk];have hs:0≤dg (cr L) (t.args.take k):=by
    unfold dg;have:∀(l:List Tm),0≤(l.map (cr L)).sum:=by
     intro l
     induction l with
     |nil=>simp
     |cons a l ih=>have:=sZ L a;simp;omega
    exact this _
   have gP:=sZ L t.args[k];generalize dg (cr L) (t.args.take k)=m at*;generalize cr L t.args[k]=v at*;have po:IntKind.i64.wrap (1+m+v)=1+m+v:=cC (by omega);have dq:¬60<1+m+v:=by omega
   simp[PA,BK,hk,EH];refine⟨_,gj,?_⟩;simp[po,dq,hw];omega
  ·have gj:=P3 L t.args[k] (lv+1) (ht.arg (List.getElem_mem hk)) (by omega) (by omega);have hf:cr (L+1) t=1+dg (cr L) (t.args.take (k+1)):=WT hk hj (by rw[E0 hk];omega);rw[hf,E0 hk];have hs:0≤dg (cr L) (t.args.take k)∧1+dg (cr L) (t.args.take k)≤60:=by
    constructor
    ·unfold dg;have:∀(l:List Tm),0≤(l.map (cr L)).sum:=by
       intro l
       induction l with
       |nil=>simp
       |cons a l ih=>have:=sZ L a;simp;omega
     exact this _
    ·cases k with
     |zero=>simp[dg]
     |succ k=>exact hj k (by omega)
   have gP:=sZ L t.args[k];have cU:=WY L t.args[k];generalize dg (cr L) (t.args.take k)=m at*;generalize cr L t.args[k]=v at*;have po:IntKind.i64.wrap (1+m+v)=1+m+v:=cC (by omega);have dq:60<1+m+v:=by omega
   simp[PA,BK,hk,EH];refine⟨_,gj,?_⟩;simp[po,dq];omega
  ·have hf:cr (L+1) t=1+dg (cr L) t.args:=WV hj;rw[hf];simp[PA,BK]
def kZ (ws ts:List Int):Nat→Int
 |0=>-1
 |k+1=>if ws.getD k 0=-1∧kZ ws ts k=-1 then ts.getD k 0 else kZ ws ts k
def lO (ws ts:List Int)(k:Nat):Bool:=if ws.getD k 0=-1 then decide (kZ ws ts k=-1)||decide (ts.getD k 0=kZ ws ts k) else decide (ts.getD k 0=ws.getD k 0)
def tc (t:Tm)(ks:List Int):Int×Int:=
 if t.op<0∨13<t.op then(0,1) else if t.op=0∨t.op=1∨t.op=2 then An t else
 if ks.length≠(dT t.op).1.length∨t.n≠0 then(0,2) else
 if dH (dT t.op).1.length (lO (dT t.op).1 ks)=false then(0,11) else if(dT t.op).2=-1 then(kZ (dT t.op).1 ks (dT t.op).1.length,0) else((dT t.op).2,0)
def bZ:Nat→Tm→Int×Int
 |0,_=>(0,0)
 |L+1,t=>if jz t.args.length (fun k=>(bZ L (t.args.getD k default)).2)≠0 then(0,jz t.args.length (fun k=>(bZ L (t.args.getD k default)).2)) else tc t (t.args.map fun a=>(bZ L a).1)
theorem JZ (L:Nat)(t:Tm):bZ (L+1) t=if jz t.args.length (fun k=>(bZ L (t.args.getD k default)).2)≠0 then(0,jz t.args.length (fun k=>(bZ L (t.args.getD k default)).2)) else tc t (t.args.map fun a=>(bZ L a).1):=rfl
theorem PU {α:Type}(A:List α)(z:α){k n:Nat}(hA:A.length=n)(hk:k<n):(A.take k++List.replicate (n-k) z).set k A[k]=A.take (k+1)++List.replicate (n-(k+1)) z:=by
 have h1:(A.take k).length=k:=by rw[List.length_take];omega
 rw[List.set_append_right _ _ (by omega),h1,Nat.sub_self];have:n-k=(n-(k+1))+1:=by omega
 rw[this,List.replicate_succ,List.set_cons_zero,List.take_succ_eq_append_getElem (by omega),List.append_assoc];rfl
theorem auI (op:Int):(dT op).1.length≤3:=by
 unfold dT;repeat' split
 all_goals simp
theorem P2:∀(L:Nat) (t:Tm),t.OK→cr L t≤60→ao T Nh [de t] (.tup [.int (bZ L t).1,.int (bZ L t).2])
 |0,t,ht,hm=>by simp[cr] at hm
 |L+1,t,ht,hm=>by
  refine .of_tree rfl SQ awU ?_;obtain⟨hl,hp⟩:=MS hm;simp[RF];refine⟨by omega,?_⟩;refine rk t.args.length (fun k=>(bZ L (t.args.getD k default)).2) (fun k=>[.int 0,.int 0,.int k]) (fun k=>[ints ((t.args.map fun a=>(bZ L a).1).take k++List.replicate (t.args.length-k) 0)]) ?_ (fun k hk ho=>?_) (fun k hk ho hb=>?_) (fun hj=>?_)
  ·simp[ints]
  ·have hw:=bu hk (by omega);have cE:=List.getElem_mem hk;have gj:=P2 L t.args[k] (ht.arg cE) (hp _ cE);have hs:=PU (t.args.map fun a=>(bZ L a).1) 0 (n:=t.args.length) (by simp) hk;rw[←hs];have hlen:((t.args.map fun a=>(bZ L a).1).take k++List.replicate (t.args.length-k) (0:Int)).length=t.args.length:=by simp;omega
   have hgk:(t.args.map fun a=>(bZ L a).1)[k]'(by simpa using hk)=(bZ L t.args[k]).1:=by simp
   rw[hgk];generalize (t.args.map fun a=>(bZ L a).1).take k++List.replicate (t.args.length-k) (0:Int)=A at*;simp[hk] at ho;rw[ho] at gj;generalize (bZ L t.args[k]).1=kd at*;simp[Py,BI,hk];refine⟨_,gj,?_⟩;simp[hlen,hk,hw,ints]
  ·have cE:=List.getElem_mem hk;have gj:=P2 L t.args[k] (ht.arg cE) (hp _ cE);have hf:bZ (L+1) t=(0,(bZ L (t.args.getD k default)).2):=by
    rw[JZ,hb,if_pos ho]
   rw[hf];simp[hk] at ho ⊢;simp[Py,BI,hk];refine⟨_,gj,?_⟩;simp[ho]
  ·have hf:bZ (L+1) t=tc t (t.args.map fun a=>(bZ L a).1):=by
    rw[JZ,hj];simp
   rw[hf]
   have e0:(t.args.map fun a=>(bZ L a).1).take t.args.length++List.replicate (t.args.length-t.args.length) 0=t.args.map fun a=>(bZ L a).1:=by
    rw[Nat.sub_self,List.take_of_length_le (by simp)];simp
   rw[e0];have Vu:(t.args.map fun a=>(bZ L a).1).length=t.args.length:=by simp
   generalize (t.args.map fun a=>(bZ L a).1)=ks at*;simp[Py,BI];unfold tc;by_cases h1:t.op<0
   ·simp[h1]
   by_cases h2:13<t.op
   ·simp[h1,h2]
   simp[h1,h2];by_cases h3:t.op=0∨t.op=1∨t.op=2
   ·have fO:(t.op=0∨t.op=1)∨t.op=2:=by omega
    simp[h3,fO];refine⟨_,au0 t,?_⟩;simp
   have fO:¬((t.op=0∨t.op=1)∨t.op=2):=by omega
   simp[h3,fO];refine⟨_,au2 _,?_⟩;have hsl:=auI t.op;generalize dT t.op=sh at*;simp;by_cases h4:ks.length=sh.1.length
   case neg=>
    have uL:¬((ks.length:Int)=sh.1.length):=by omega
    have DS:¬t.args.length=sh.1.length:=by omega
    simp[h4,uL,DS]
   have uL:(ks.length:Int)=sh.1.length:=by omega
   have DS:t.args.length=sh.1.length:=by omega
   by_cases h5:t.n=0
   case neg=>simp[h4,uL,DS,h5]
   simp[h4,uL,DS,h5];refine eZ sh.1.length (lO sh.1 ks) (fun k=>[.int 0,.int 0,.int (kZ sh.1 ks k),.int k]) (fun _=>[]) ?_ (fun k hk ho=>?_) (fun k hk ho hb=>?_) (fun hj=>?_)
   ·simp[kZ]
   ·have hw:=bu hk (by omega);have cD:k<ks.length:=by omega
    simp only[kZ];unfold lO at ho;simp only[List.getD_eq_getElem?_getD,List.getElem?_eq_getElem hk,List.getElem?_eq_getElem cD,Option.getD_some] at ho ⊢;generalize kZ sh.1 ks k=c at*;by_cases a1:sh.1[k]=-1
    ·by_cases a2:c=-1
     ·simp[wI,re,hk,cD,hw,ints,a1,a2]
     ·simp[a1,a2] at ho;simp[wI,re,hk,cD,hw,ints,a1,a2,ho]
    ·simp[a1] at ho;simp[wI,re,hk,cD,hw,ints,a1,ho]
   ·rw[hb];have cD:k<ks.length:=by omega
    unfold lO at ho;simp only[List.getD_eq_getElem?_getD,List.getElem?_eq_getElem hk,List.getElem?_eq_getElem cD,Option.getD_some] at ho;generalize kZ sh.1 ks k=c at*;by_cases a1:sh.1[k]=-1
    ·by_cases a2:c=-1
     ·simp[a1,a2] at ho
     ·simp[a1,a2] at ho;simp[wI,re,hk,cD,ints,a1,a2,ho]
    ·simp[a1] at ho;simp[wI,re,hk,cD,ints,a1,ho]
   ·rw[hj];simp[wI,re];by_cases a1:sh.2=-1<;>simp[a1]
def lu (t:Tm):Int×Int:=if 60<cr 8 t then(0,6) else bZ 8 t
theorem abT (t:Tm)(ht:t.OK):ao T Nf [de t] (.tup [.int (lu t).1,.int (lu t).2]):=by
 refine .of_tree rfl SO awP ?_;simp[RB,lu];refine⟨_,P3 8 t 1 ht (by omega) (by omega),?_⟩;by_cases h:60<cr 8 t
 ·simp[h]
 simp[h];refine⟨_,P2 8 t ht (by omega),?_⟩;simp
end Rm
namespace Rm
open Go Go.Proofs Cx
abbrev u (n:Nat):D:=.v (.int .u64 n)
theorem ac0 (n:Int):IntKind.u64.wrap n=n%18446744073709551616:=rfl
theorem Ca {n:Int}(h:0≤n∧n<18446744073709551616):IntKind.u64.wrap n=n:=by
 rw[ac0];omega
theorem tU {n:Nat}(h:n<18446744073709551616):IntKind.u64.wrap (n:Int)=n:=Ca (by omega)
theorem auJ (a s:Nat)(h:s≤64):dP .shr .u64 a s=((a/2^s:Nat):Int):=by
 show Int.fdiv (a:Int) (2^(min (s:Int).toNat 64))=_;have:min (s:Int).toNat 64=s:=by simp;omega
 rw[this,Int.fdiv_eq_ediv_of_nonneg _ (Int.le_of_lt (Int.pow_pos (by decide)))];rw[Int.natCast_ediv,Int.natCast_pow];rfl
theorem I9 (a:Nat)(h:a<18446744073709551616):dP .and .u64 a 4294967295=((a%4294967296:Nat):Int):=by
 show IntKind.u64.wrap ((BitVec.ofInt 64 (a:Int)&&& BitVec.ofInt 64 4294967295).toNat:Nat)=_;have e:(BitVec.ofInt 64 (a:Int)&&& BitVec.ofInt 64 4294967295).toNat=a%4294967296:=by
  rw[BitVec.toNat_and];have e1:(BitVec.ofInt 64 (a:Int)).toNat=a:=by simp[BitVec.ofInt,BitVec.toNat_ofNat];omega
  have e2:(BitVec.ofInt 64 4294967295).toNat=2^32-1:=by decide
  rw[e1,e2,Nat.and_two_pow_sub_one_eq_mod]
 rw[e,tU (by omega)]
@[simp] theorem wP (a:Nat):dP .shr .u64 a 32=((a/4294967296:Nat):Int):=auJ a 32 (by decide)
set_option maxHeartbeats 2000000 in
theorem arO (a b:Nat)(ha:a<18446744073709551616)(hb:b<18446744073709551616):ao T Xi [u a,u b] (.tup [u (a*b/18446744073709551616),u (a*b%18446744073709551616)]):=by
 refine .of_tree rfl adZ avl ?_;obtain⟨h1,h2,h3,h4⟩:=Go.Lib.mul64_hi a b ha hb;have elo:IntKind.u64.wrap ((a:Int)*(b:Int))=((a*b%18446744073709551616:Nat):Int):=by rw[ac0,Int.natCast_emod,Int.natCast_mul];rfl
 have Kc:dP .shr .u64 (a:Int) 32=((a/4294967296:Nat):Int):=wP a;have ea0:dP .and .u64 (a:Int) 4294967295=((a%4294967296:Nat):Int):=I9 a ha;have Kd:dP .shr .u64 (b:Int) 32=((b/4294967296:Nat):Int):=wP b;have eb0:dP .and .u64 (b:Int) 4294967295=((b%4294967296:Nat):Int):=I9 b hb;have aBO:=Go.Lib.half_mul_le (a:=a/4294967296) (b:=b/4294967296) (by omega) (by omega);have aBN:=Go.Lib.half_mul_le (a:=a/4294967296) (b:=b%4294967296) (by omega) (by omega);have aBM:=Go.Lib.half_mul_le (a:=a%4294967296) (b:=b/4294967296) (by omega) (by omega);have aBL:=Go.Lib.half_mul_le (a:=a%4294967296) (b:=b%4294967296) (by omega) (by omega);have K1:a*b/18446744073709551616<18446744073709551616:=by
  have:a*b<18446744073709551616*18446744073709551616:=Nat.mul_lt_mul'' ha hb;exact Nat.div_lt_of_lt_mul this
 simp only[Qh];generalize a/4294967296=a1 at*;generalize a%4294967296=a0 at*;generalize b/4294967296=b1 at*;generalize b%4294967296=b0 at*;have p11:IntKind.u64.wrap ((a1:Int)*(b1:Int))=((a1*b1:Nat):Int):=by rw[←Int.natCast_mul];exact tU (by omega)
 have p10:IntKind.u64.wrap ((a1:Int)*(b0:Int))=((a1*b0:Nat):Int):=by rw[←Int.natCast_mul];exact tU (by omega)
 have p01:IntKind.u64.wrap ((a0:Int)*(b1:Int))=((a0*b1:Nat):Int):=by rw[←Int.natCast_mul];exact tU (by omega)
 have p00:IntKind.u64.wrap ((a0:Int)*(b0:Int))=((a0*b0:Nat):Int):=by rw[←Int.natCast_mul];exact tU (by omega)
 rw[←h4] at K1 ⊢;generalize a1*b1=P at*;generalize a1*b0=Q at*;generalize a0*b1=R at*;generalize a0*b0=S at*;have s1:dP .shr .u64 (S:Int) 32=((S/4294967296:Nat):Int):=wP S;have s2:IntKind.u64.wrap ((Q:Int)+((S/4294967296:Nat):Int))=((Q+S/4294967296:Nat):Int):=by rw[Ca (by omega)];omega
 generalize S/4294967296=S1 at*;generalize hT:Q+S1=TT at*;have s3:dP .shr .u64 (TT:Int) 32=((TT/4294967296:Nat):Int):=wP TT;have s4:dP .and .u64 (TT:Int) 4294967295=((TT%4294967296:Nat):Int):=I9 TT (by omega);have s5:IntKind.u64.wrap (((TT%4294967296:Nat):Int)+(R:Int))=((TT%4294967296+R:Nat):Int):=by rw[Ca (by omega)];omega
 generalize hU:TT%4294967296+R=U at*;have s6:dP .shr .u64 (U:Int) 32=((U/4294967296:Nat):Int):=wP U;have s7:IntKind.u64.wrap ((P:Int)+((TT/4294967296:Nat):Int))=((P+TT/4294967296:Nat):Int):=by rw[Ca (by omega)];omega
 have s8:IntKind.u64.wrap (((P+TT/4294967296:Nat):Int)+((U/4294967296:Nat):Int))=((P+TT/4294967296+U/4294967296:Nat):Int):=by rw[Ca (by omega)];omega
 simp[-wP,-Int.natCast_add,-Int.natCast_mul,-Int.natCast_ediv,-Int.natCast_emod,elo,Kc,ea0,Kd,eb0,p11,p10,p01,p00,s1,s2,s3,s4,s5,s6,s7,s8]
def pE (m:Nat):Int:=if m<1099511627776 then m else 1099511627776
def vZ (a b:Int):Int:=if(decide (a<0)!=decide (b<0))=true then-pE (a.natAbs*b.natAbs) else pE (a.natAbs*b.natAbs)
theorem aaj (m:Nat):0≤pE m∧pE m≤1099511627776:=by unfold pE;split<;>omega
set_option maxHeartbeats 1000000 in
theorem au1 (a b:Int)(ha:-1099511627776≤a∧a≤1099511627776)(hb:-1099511627776≤b∧b≤1099511627776):ao T Yw [.int a,.int b] (.int (vZ a b)):=by
 refine .of_tree rfl afl aw0 ?_;have wa:IntKind.u64.wrap (a.natAbs:Int)=a.natAbs:=tU (by omega);have wb:IntKind.u64.wrap (b.natAbs:Int)=b.natAbs:=tU (by omega);have w0a:IntKind.i64.wrap (0-a)=-a:=by rw[cC (by omega)];omega
 have w0b:IntKind.i64.wrap (0-b)=-b:=by rw[cC (by omega)];omega
 have axn:IntKind.i64.wrap (-a)=-a:=cC (by omega);have axo:IntKind.i64.wrap (-b)=-b:=cC (by omega);have ea:(if a< -a then D.int (-a) else D.int a)=D.int a.natAbs:=by split<;>congr 1<;>omega
 have eb:(if b< -b then D.int (-b) else D.int b)=D.int b.natAbs:=by split<;>congr 1<;>omega
 have ea':(if a< -a then-a else a)=(a.natAbs:Int):=by split<;>omega
 have eb':(if b< -b then-b else b)=(b.natAbs:Int):=by split<;>omega
 simp[RK,axn,axo,ea,eb,ea',eb'];rw[wa,wb];refine⟨_,arO a.natAbs b.natAbs (by omega) (by omega),?_⟩;unfold vZ;generalize a.natAbs*b.natAbs=m;have hs:(decide (a<0)!=decide (b<0))=false↔(a<0↔b<0):=by
  by_cases h1:a<0<;>by_cases h2:b<0<;>simp[h1,h2]
 have key:((if((m/18446744073709551616:Nat):Int)=0∧((m%18446744073709551616:Nat):Int)<1099511627776 then IntKind.i64.wrap ((m%18446744073709551616:Nat):Int) else 1099511627776):Int)=pE m:=by
  unfold pE;by_cases hm:m<1099511627776
  ·have h1:m/18446744073709551616=0:=by omega
   have h2:m%18446744073709551616=m:=by omega
   rw[h1,h2,if_pos ⟨rfl,by omega⟩,if_pos hm,cC (by omega)]
  ·rw[if_neg hm,if_neg];rintro⟨h1,h2⟩;omega
 have fj:=aaj m;have apj:(if((m/18446744073709551616:Nat):Int)=0∧((m%18446744073709551616:Nat):Int)<1099511627776 then D.int (IntKind.i64.wrap ((m%18446744073709551616:Nat):Int)) else D.int 1099511627776)=D.int (pE m):=by
  rw[←key];split<;>rfl
 show(if a<0↔b<0 then(if((m/18446744073709551616:Nat):Int)=0∧((m%18446744073709551616:Nat):Int)<1099511627776 then D.int (IntKind.i64.wrap ((m%18446744073709551616:Nat):Int)) else D.int 1099511627776)=_ else
  IntKind.i64.wrap (-(if((m/18446744073709551616:Nat):Int)=0∧((m%18446744073709551616:Nat):Int)<1099511627776 then IntKind.i64.wrap ((m%18446744073709551616:Nat):Int) else 1099511627776))=_)
 rw[apj,key];generalize pE m=n at*;split
 ·rename_i h;rw[hs.2 h];simp
 ·rename_i h;have:(decide (a<0)!=decide (b<0))=true:=by
   cases e:(decide (a<0)!=decide (b<0)) with
   |true=>rfl
   |false=>exact absurd (hs.1 e) h
  rw[this,cC (by omega)];simp
def ud (op a b:Int):Int:=if op=9 then mw (a+b) else if op=10 then mw (a-b) else if op=11 then vZ a b else if op=12 then min a b else max a b
theorem auY (op a b:Int)(ha:-1099511627776≤a∧a≤1099511627776)(hb:-1099511627776≤b∧b≤1099511627776):ao T Yu [.int op,.int a,.int b] (.int (ud op a b)):=by
 refine .of_tree rfl afj awT ?_;have w1:IntKind.i64.wrap (a+b)=a+b:=cC (by omega);have w2:IntKind.i64.wrap (a-b)=a-b:=cC (by omega);simp[RE,ud,w1,w2];by_cases h1:op=9
 ·simp[h1];exact Iw _
 by_cases h2:op=10
 ·simp[h1,h2];exact Iw _
 by_cases h3:op=11
 ·simp[h1,h2,h3];exact au1 a b ha hb
 by_cases h4:op=12
 ·simp[h1,h2,h3,h4];by_cases h5:b<a<;>simp[h5]<;>omega
 simp[h1,h2,h3,h4];by_cases h5:b>a<;>simp[h5]<;>omega
def fH (b:Bool):Cell:=if b then⟨true,1⟩ else⟨true,0⟩
theorem ry (b:Bool):ao T Nn [.bool b] (cA (fH b)):=by
 refine .of_tree rfl SX aw2 ?_;cases b<;>simp[RM,fH]<;>rfl
def dh:Cell:=⟨false,0⟩
@[simp] theorem aCH:D.agg [.bool false,.int 0]=cA dh:=_root_.id rfl
@[simp] theorem aCI:dh.known=false:=rfl
@[simp] theorem aCJ:dh.n=0:=rfl
def cellAt (cs:List Cell)(v:Int):Cell:=cs.getD v.toNat default
def jR (cs:List Cell)(v:Int):Cell:=if cs.length≤v.toNat∨(cellAt cs v).known=false then dh else if(kA v).1=1 then fH (decide ((cellAt cs v).n≠0)) else⟨true,mw (cellAt cs v).n⟩
abbrev Kf (cs:List Cell):D:=.agg [cells cs]
theorem au3 (cs:List Cell)(v:Int)(hv:0≤v):ao T Nk [Kf cs,.int v] (cA (jR cs v)):=by
 refine .of_tree rfl SV awZ ?_;obtain⟨k,rfl⟩:=Int.eq_ofNat_of_zero_le hv;simp[RJ,jR,cellAt];by_cases h1:cs.length≤k
 ·simp[h1]
 have cB:k<cs.length:=by omega
 simp[h1,cB];cases h2:cs[k].known
 ·simp[h2]
 simp[h2];refine⟨_,abU _,?_⟩;by_cases h3:(kA k).1=1
 ·simp[h3,cB];refine⟨_,ry _,?_⟩;simp;rfl
 ·simp[h3,cB];refine⟨_,Iw _,?_⟩;simp;rfl
@[simp] theorem aB4 (a b:Int):(a==b)=decide (a=b):=_root_.id rfl
@[simp] theorem aB5 (a b:Int):(a !=b)= !decide (a=b):=_root_.id rfl
def bf (l:List Cell)(k:Nat):Cell:=l.getD k default
def fK (op:Int)(l:List Cell):Cell:=
 if op=3 then(if(bf l 0).known=true then fH (decide ((bf l 0).n=0)) else dh)
 else if(op=4∨op=5)∧(bf l 0=fH (decide (op=5))∨bf l 1=fH (decide (op=5))) then fH (decide (op=5))
 else if op=6 then(if(bf l 1).known=true∧bf l 1=bf l 2 then bf l 1 else dh)
 else if(bf l 0).known=false∨(bf l 1).known=false then dh
 else if op=4∨op=5 then fH (decide (op=4))
 else if op=7 then fH (decide ((bf l 0).n<(bf l 1).n)) else if op=8 then fH (decide ((bf l 0).n=(bf l 1).n)) else⟨true,ud op (bf l 0).n (bf l 1).n⟩
theorem afW (a b:Cell):a=b↔a.known=b.known∧a.n=b.n:=by cases a;cases b;simp
theorem auZ (op:Int)(l:List Cell)(h1:1≤l.length)(h2:op≠3→2≤l.length)(h3:op=6→3≤l.length)
 (hb:9≤op→(-1099511627776≤(bf l 0).n∧(bf l 0).n≤1099511627776)∧(-1099511627776≤(bf l 1).n∧(bf l 1).n≤1099511627776)) (h9:op<3∨8<op→9≤op):
 ao T Ni [.int op,cells l] (cA (fK op l)):=by
 refine .of_tree rfl SR awV ?_;have g0:0<l.length:=by omega
 have rT:l[0]=bf l 0:=by simp[bf,g0]
 simp[RG];unfold fK;by_cases o3:op=3
 ·simp[o3,g0,rT];cases e:(bf l 0).known
  ·simp
  ·simp[g0];refine⟨_,ry _,?_⟩;simp
 have g1:1<l.length:=by have:=h2 o3;omega
 have zd:l[1]=bf l 1:=by simp[bf,g1]
 have fN:(1:Int)<l.length:=by omega
 simp[o3];have fin:∀a b:Cell,(a=b)=(a.known=b.known∧a.n=b.n):=fun a b=>propext (afW a b);rcases Classical.em (op=4) with o4|o4
 ·subst o4;simp;refine⟨_,ry _,?_⟩;simp[g0,g1,fN,rT,zd,fin];split
  ·rfl
  ·split
   ·rfl
   ·refine⟨_,ry _,?_⟩;simp
 rcases Classical.em (op=5) with o5|o5
 ·subst o5;simp;refine⟨_,ry _,?_⟩;simp[g0,g1,fN,rT,zd,fin];split
  ·rfl
  ·split
   ·rfl
   ·refine⟨_,ry _,?_⟩;simp
 rcases Classical.em (op=6) with o6|o6
 ·subst o6;have g2:2<l.length:=by have:=h3 rfl;omega
  have gg2:l[2]=bf l 2:=by simp[bf,g2]
  have oS:(2:Int)<l.length:=by omega
  simp[g1,g2,fN,oS,zd,gg2,fin];cases e1:(bf l 1).known
  ·simp
  by_cases e2:(bf l 1).known=(bf l 2).known∧(bf l 1).n=(bf l 2).n
  ·rw[e1] at e2;simp[e1,e2]
  ·rw[e1] at e2;have qf:¬((bf l 2).known=true∧(bf l 1).n=(bf l 2).n):=fun h=>e2 ⟨h.1.symm,h.2⟩;simp only[e1,true_and,if_true]
   first|(rw[if_neg qf,if_neg qf])|(simp[qf])
 simp[o4,o5,o6,g0,g1,fN,rT,zd];cases e1:(bf l 0).known
 ·simp
 cases e2:(bf l 1).known
 ·simp
 simp[g1,fN,zd];rcases Classical.em (op=7) with o7|o7
 ·subst o7;simp;refine⟨_,ry _,?_⟩;simp
 rcases Classical.em (op=8) with o8|o8
 ·subst o8;simp;refine⟨_,ry _,?_⟩;simp
 simp[o7,o8];obtain⟨b1,b2⟩:=hb (h9 (by omega));refine⟨_,auY op _ _ b1 b2,?_⟩;simp;rfl
end Rm
namespace Rm
open Go Go.Proofs Cx
def bC:Nat→List Cell→Tm→Cell
 |0,_,_=>dh
 |L+1,cs,t=>if t.op=0∨t.op=1 then⟨true,t.n⟩ else if t.op=2 then jR cs t.n else
   if t.op=6∧(bf (t.args.map (bC L cs)) 0).known=true then bf (t.args.map (bC L cs)) (2-(bf (t.args.map (bC L cs)) 0).n).toNat else fK t.op (t.args.map (bC L cs))
def dw:Nat→List Cell→Tm→List Int
 |0,_,_=>[]
 |L+1,cs,t=>if t.op=0∨t.op=1 then[] else if t.op=2 then(if(jR cs t.n).known=true then[] else[t.n]) else
   if t.op=6∧(bf (t.args.map (bC L cs)) 0).known=true then(t.args.map (dw L cs)).getD (2-(bf (t.args.map (bC L cs)) 0).n).toNat [] else
   if(fK t.op (t.args.map (bC L cs))).known=true then[] else(t.args.map (dw L cs)).flatten
theorem DC (L:Nat)(cs:List Cell)(t:Tm):bC (L+1) cs t=if t.op=0∨t.op=1 then⟨true,t.n⟩ else if t.op=2 then jR cs t.n else
 if t.op=6∧(bf (t.args.map (bC L cs)) 0).known=true then bf (t.args.map (bC L cs)) (2-(bf (t.args.map (bC L cs)) 0).n).toNat else fK t.op (t.args.map (bC L cs)):=rfl
theorem E5 (L:Nat)(cs:List Cell)(t:Tm):dw (L+1) cs t=if t.op=0∨t.op=1 then[] else if t.op=2 then(if(jR cs t.n).known=true then[] else[t.n]) else
 if t.op=6∧(bf (t.args.map (bC L cs)) 0).known=true then(t.args.map (dw L cs)).getD (2-(bf (t.args.map (bC L cs)) 0).n).toNat [] else
 if(fK t.op (t.args.map (bC L cs))).known=true then[] else(t.args.map (dw L cs)).flatten:=rfl
theorem J0 {L:Nat}{t:Tm}{k:Int}(h:bZ (L+1) t=(k,0)):(∀a,a∈t.args→(bZ L a).2=0)∧tc t (t.args.map fun a=>(bZ L a).1)=(k,0):=by
 rw[JZ] at h;by_cases e:jz t.args.length (fun k=>(bZ L (t.args.getD k default)).2)=0
 ·rw[if_neg (by simpa using e)] at h;refine⟨fun a ha=>?_,h⟩;obtain⟨j,hj,rfl⟩:=List.getElem_of_mem ha;have:=Ur.1 e j hj;simpa [hj] using this
 ·rw[if_pos e] at h;injection h with _ h
  exact absurd h e
inductive Node (ks:List Int) (t:Tm):Int→Prop where
 |int (h:t.op=0) (ha:t.args=[]) (hn:-1099511627776≤t.n∧t.n≤1099511627776):Node ks t 0
 |bool (h:t.op=1) (ha:t.args=[]) (hn:t.n=0∨t.n=1):Node ks t 1
 |var (h:t.op=2) (ha:t.args=[]) (hn:0≤t.n∧t.n≤19):Node ks t (kA t.n).1
 |not (h:t.op=3) (hk:ks=[1]):Node ks t 1
 |log (h:t.op=4∨t.op=5) (hk:ks=[1,1]):Node ks t 1
 |ite (k:Int) (h:t.op=6) (hk:ks=[1,k,k]):Node ks t k
 |less (h:t.op=7) (hk:ks=[0,0]):Node ks t 1
 |equal (k:Int) (h:t.op=8) (hk:ks=[k,k]):Node ks t 1
 |num (h:9≤t.op∧t.op≤13) (hk:ks=[0,0]):Node ks t 0
theorem axl (v:Int):(kA v).1=0∨(kA v).1=1:=by
 unfold kA;repeat' split
 all_goals simp
theorem ar6 {t:Tm}{ks:List Int}{k:Int}(hl:ks.length=t.args.length)(gx:∀x,x∈ks→x=0∨x=1)(h:tc t ks=(k,0)):Node ks t k:=by
 unfold tc at h;split at h
 ·injection h with _ h;cases h
 rename_i bE;split at h
 ·rename_i h3;unfold An at h;split at h
  ·injection h with _ h;cases h
  rename_i ha0;have ha:t.args=[]:=List.eq_nil_of_length_eq_zero (by omega);split at h
  ·rename_i h0;split at h
   ·injection h with _ h;cases h
   ·rename_i hc;injection h with h _
    subst h;refine .int h0 ha ?_;unfold mw at hc;omega
  split at h
  ·rename_i h0;split at h
   ·injection h with _ h;cases h
   ·rename_i hc;injection h with h _
    subst h;exact .bool h0 ha (by omega)
  split at h
  ·injection h with _ h;cases h
  ·rename_i g0 g1 hc;injection h with h _
   subst h;refine .var (by omega) ha ?_;unfold kA at hc;split at hc
   ·simp at hc
   ·omega
 rename_i h3;split at h
 ·injection h with _ h;cases h
 rename_i hlen;have lI:ks.length=(dT t.op).1.length:=by
  refine Classical.byContradiction fun hh=>hlen (.inl hh)
 split at h
 ·injection h with _ h;cases h
 rename_i ax;have gT:∀j,j<(dT t.op).1.length→lO (dT t.op).1 ks j=true:=uc.1 (by simpa using ax)
 have two:∀{n:Nat},ks.length=2→∃a b,ks=[a,b]:=fun h=>by
  match ks,h with
  |[a,b],_=>exact⟨a,b,rfl⟩
 by_cases o3:t.op=3
 ·have e:dT t.op=([1],1):=by simp[dT,o3]
  rw[e] at lI gT h
  match ks,lI with
  |[a],_=>
   have:=gT 0 (by simp);simp[lO] at this;simp at h;subst h this;exact .not o3 rfl
 by_cases E9:t.op=4∨t.op=5
 ·have e:dT t.op=([1,1],1):=by simp[dT,o3,E9]
  rw[e] at lI gT h
  match ks,lI with
  |[a,b],_=>
   have t1:=gT 0 (by simp);have t2:=gT 1 (by simp);simp[lO] at t1 t2;simp at h;subst h t1 t2;exact .log E9 rfl
 by_cases o6:t.op=6
 ·have e:dT t.op=([1,-1,-1],-1):=by simp[dT,o6]
  rw[e] at lI gT h
  match ks,lI,gx with
  |[a,b,c],_,gx=>
   have t1:=gT 0 (by simp);have t3:=gT 2 (by simp);have hb:=gx b (by simp);have nC:¬b=-1:=by omega
   simp[lO] at t1;simp[lO,kZ,nC] at t3;simp[kZ,nC] at h;subst h t1 t3;exact .ite _ o6 rfl
 by_cases o7:t.op=7
 ·have e:dT t.op=([0,0],1):=by simp[dT,o7]
  rw[e] at lI gT h
  match ks,lI with
  |[a,b],_=>
   have t1:=gT 0 (by simp);have t2:=gT 1 (by simp);simp[lO] at t1 t2;simp at h;subst h t1 t2;exact .less o7 rfl
 by_cases o8:t.op=8
 ·have e:dT t.op=([-1,-1],1):=by simp[dT,o8]
  rw[e] at lI gT h
  match ks,lI,gx with
  |[a,b],_,gx=>
   have t2:=gT 1 (by simp);have ha:=gx a (by simp);have han:¬a=-1:=by omega
   simp[lO,kZ,han] at t2;simp at h;subst h t2;exact .equal _ o8 rfl
 have e:dT t.op=([0,0],0):=by simp[dT,o3,E9,o6,o7,o8]
 rw[e] at lI gT h
 match ks,lI with
 |[a,b],_=>
  have t1:=gT 0 (by simp);have t2:=gT 1 (by simp);simp[lO] at t1 t2;simp at h;subst h t1 t2;exact .num (by omega) rfl
theorem J1:∀{L:Nat} {t:Tm} {k:Int},bZ (L+1) t=(k,0)→Node (t.args.map fun a=>(bZ L a).1) t k∧(k=0∨k=1)
 |L,t,k,h=>by
  obtain⟨h1,h2⟩:=J0 h
  have gx:∀x,x∈(t.args.map fun a=>(bZ L a).1)→x=0∨x=1:=by
   intro x hx;obtain⟨a,ha,rfl⟩:=List.mem_map.1 hx;cases L with
   |zero=>exact .inl rfl
   |succ L=>exact(J1 (L:=L) (t:=a) (k:=(bZ (L+1) a).1) (by rw[←h1 a ha])).2
  have hn:=ar6 (by simp) gx h2;refine⟨hn,?_⟩;cases hn with
  |int=>simp
  |bool=>simp
  |var=>exact axl _
  |not=>simp
  |log=>simp
  |ite k _ hk=>exact gx k (by rw[hk];simp)
  |less=>simp
  |equal=>simp
  |num=>simp
end Rm
namespace Rm
open Go Go.Proofs Cx
def rG (k:Int)(c:Cell):Prop:=(c.known=false→c=dh)∧(c.known=true→(k=1→c.n=0∨c.n=1)∧(k=0→-1099511627776≤c.n∧c.n≤1099511627776))
theorem rh (k:Int):rG k dh:=⟨fun _=>rfl,fun h=>by cases h⟩
theorem wL (b:Bool):rG 1 (fH b):=⟨fun h=>(by cases b<;>cases h),fun _=>⟨fun _=>(by cases b<;>simp[fH]),fun h=>by cases h⟩⟩
theorem J6 (n:Int):-1099511627776≤mw n∧mw n≤1099511627776:=by unfold mw;omega
theorem aum (cs:List Cell)(v:Int)(hv:0≤v∧v≤19):rG (kA v).1 (jR cs v):=by
 unfold jR;split
 ·exact rh _
 ·split
  ·rename_i h;rw[h];exact wL _
  ·rename_i h;refine⟨fun h=>(by cases h),fun _=>⟨fun h'=>absurd h' h,fun _=>J6 _⟩⟩
theorem atn (a b:Int):-1099511627776≤vZ a b∧vZ a b≤1099511627776:=by
 unfold vZ;have:=aaj (a.natAbs*b.natAbs);split<;>omega
theorem adC (op a b:Int)(ha:-1099511627776≤a∧a≤1099511627776)(hb:-1099511627776≤b∧b≤1099511627776):-1099511627776≤ud op a b∧ud op a b≤1099511627776:=by
 unfold ud;split
 ·exact J6 _
 split
 ·exact J6 _
 split
 ·exact atn _ _
 split<;>omega
theorem arC {α β:Type}{f:α→β}{l:List α}{x:β}(h:l.map f=[x]):∃a,l=[a]∧f a=x:=by
 match l,h with
 |[a],h=>exact⟨a,rfl,by simpa using h⟩
theorem vz {α β:Type}{f:α→β}{l:List α}{x y:β}(h:l.map f=[x,y]):∃a b,l=[a,b]∧f a=x∧f b=y:=by
 match l,h with
 |[a,b],h=>exact⟨a,b,rfl,by simpa using h⟩
theorem MQ {α β:Type}{f:α→β}{l:List α}{x y z:β}(h:l.map f=[x,y,z]):∃a b c,l=[a,b,c]∧f a=x∧f b=y∧f c=z:=by
 match l,h with
 |[a,b,c],h=>exact⟨a,b,c,rfl,by simpa using h⟩
theorem Uh:∀{L:Nat} {t:Tm} {k:Int} (cs:List Cell),bZ L t=(k,0)→rG k (bC L cs t)
 |0,t,k,cs,h=>rh _
 |L+1,t,k,cs,h=>by
  obtain⟨hn,hk⟩:=J1 h;obtain⟨ha,_⟩:=J0 h;have ih:∀a,a∈t.args→rG (bZ L a).1 (bC L cs a):=fun a hm=>Uh cs (show bZ L a=((bZ L a).1,0) by rw[←ha a hm]);rw[DC];cases hn with
  |int h0 ha hn=>rw[if_pos (.inl h0)];exact⟨fun h=>(by cases h),fun _=>⟨fun h=>(by cases h),fun _=>hn⟩⟩
  |bool h0 ha hn=>rw[if_pos (.inr h0)];exact⟨fun h=>(by cases h),fun _=>⟨fun _=>hn,fun h=>by cases h⟩⟩
  |var h0 ha hn=>rw[if_neg (by omega),if_pos h0];exact aum cs _ hn
  |not h0 hk=>
   rw[if_neg (by omega),if_neg (by omega),if_neg (by omega)];unfold fK;rw[if_pos h0];split
   ·exact wL _
   ·exact rh _
  |log h0 hk=>
   rw[if_neg (by omega),if_neg (by omega),if_neg (by omega)];unfold fK;rw[if_neg (by omega)];split
   ·exact wL _
   rw[if_neg (by omega)];split
   ·exact rh _
   exact wL _
  |ite k h0 cD=>
   obtain⟨a,b,c,hl,e1,e2,e3⟩:=MQ cD;rw[hl] at ih ⊢;have r1:=ih a (by simp);have r2:=ih b (by simp);have r3:=ih c (by simp);rw[e1] at r1;rw[e2] at r2;rw[e3] at r3;rw[if_neg (by omega),if_neg (by omega)];simp only[List.map_cons,List.map_nil,bf,List.getD_cons_zero];split
   ·rename_i hh;rcases(r1.2 hh.2).1 rfl with h1|h1<;>rw[h1]
    ·exact r3
    ·exact r2
   ·unfold fK;rw[if_neg (by omega),if_neg (by omega),if_pos h0];simp only[bf,List.getD_cons_zero,List.getD_cons_succ];split
    ·exact r2
    ·exact rh _
  |less h0 hk=>
   rw[if_neg (by omega),if_neg (by omega),if_neg (by omega)];unfold fK;rw[if_neg (by omega),if_neg (by omega),if_neg (by omega)];split
   ·exact rh _
   repeat' split
   all_goals exact wL _
  |equal k h0 hk=>
   rw[if_neg (by omega),if_neg (by omega),if_neg (by omega)];unfold fK;rw[if_neg (by omega),if_neg (by omega),if_neg (by omega)];split
   ·exact rh _
   repeat' split
   all_goals exact wL _
  |num h0 cD=>
   obtain⟨a,b,hl,e1,e2⟩:=vz cD;rw[hl] at ih ⊢;have r1:=ih a (by simp);have r2:=ih b (by simp);rw[e1] at r1;rw[e2] at r2;rw[if_neg (by omega),if_neg (by omega),if_neg (by omega)];unfold fK;rw[if_neg (by omega),if_neg (by omega),if_neg (by omega)];simp only[List.map_cons,List.map_nil,bf,List.getD_cons_zero,List.getD_cons_succ];split
   ·exact rh _
   rename_i zF;rw[if_neg (by omega),if_neg (by omega),if_neg (by omega)];have k1:(bC L cs a).known=true:=by
    cases e:(bC L cs a).known with
    |true=>rfl
    |false=>exact absurd (.inl e) zF
   have k2:(bC L cs b).known=true:=by
    cases e:(bC L cs b).known with
    |true=>rfl
    |false=>exact absurd (.inr e) zF
   exact⟨fun h=>(by cases h),fun _=>⟨fun h=>(by cases h),fun _=>adC _ _ _ ((r1.2 k1).2 rfl) ((r2.2 k2).2 rfl)⟩⟩
theorem Yx:∀(L:Nat) (cs:List Cell) (t:Tm),cr L t≤60→((dw L cs t).length:Int)≤cr L t
 |0,cs,t,h=>by simp[cr] at h
 |L+1,cs,t,h=>by
  have h1:=sZ (L+1) t;obtain⟨hl,hp⟩:=MS h;have hs:∀(l:List Tm) (n:Int),(∀a,a∈l→cr L a≤60)→eI (cr L) l n≤60→((l.map (dw L cs)).flatten.length:Int)+n≤eI (cr L) l n∧∀j,(((l.map (dw L cs)).getD j []).length:Int)+n≤eI (cr L) l n:=by
   intro l
   induction l with
   |nil=>intro n _ _;simp[eI]
   |cons a l ih=>
    intro n hp hm;have ha:=Yx L cs a (hp a (by simp));unfold eI at hm ⊢;split at hm
    ·omega
    ·rename_i h60;rw[if_neg h60];obtain⟨i1,i2⟩:=ih (n+cr L a) (fun b hb=>hp b (by simp[hb])) hm;refine⟨by rw[List.map_cons,List.flatten_cons,List.length_append];omega,fun j=>?_⟩;cases j with
     |zero=>simp;omega
     |succ j=>have:=i2 j;simp at this ⊢;omega
  obtain⟨hs1,ed⟩:=hs t.args 1 hp h;rw[E5];split
  ·simp;omega
  split
  ·split<;>simp<;>omega
  split
  ·have:=ed (2-(bf (t.args.map (bC L cs)) 0).n).toNat;show _≤eI _ _ _;omega
  split
  ·simp;omega
  ·show _≤eI _ _ _;omega
@[simp] theorem aDI (x y:List Int):ru (ints x) 0 (ints y)=ints y:=_root_.id rfl
@[simp] theorem auO (x y:Cell):ru (cA x) 0 (cA y)=cA y:=_root_.id rfl
@[simp] theorem aB6 (a b:List Int):D.list (a.map D.int++b.map D.int)=ints (a++b):=by simp[ints]
def lists (l:List (List Int)):D:=.list (l.map ints)
@[simp] theorem aCk (l:List (List Int)):(lists l).l=l.map ints:=_root_.id rfl
theorem ac7 (l:List (List Int))(hl:l.length≤1000)(hs:l.flatten.length≤1000000):ao T M8 [lists l] (ints l.flatten):=by
 refine .of_tree rfl SJ aww ?_;simp[Rl];have hb:∀k,(l.take k).flatten.length≤l.flatten.length:=by
  intro k
  conv=>rhs;rw[←List.take_append_drop k l]
  rw[List.flatten_append,List.length_append];omega
 have bB:∀k (hk:k<l.length),(l.take (k+1)).flatten=(l.take k).flatten++l[k]:=fun k hk=>by
  rw[List.take_succ_eq_append_getElem hk,List.flatten_append];simp
 refine aT.forRounds l.length (fun k=>[.int ((l.take k).flatten.length:Nat),.int k]) (fun k=>[]) ?_ (fun k hk=>?_) ?_
 ·simp
 ·have hw:=bu hk (by omega);have h1:=bB k hk;have h2:=hb (k+1);rw[h1] at h2 ⊢;rw[List.length_append] at h2 ⊢;generalize (l.take k).flatten.length=m at*;have po:IntKind.i64.wrap ((m:Int)+(l[k].length:Int))=(m:Int)+l[k].length:=cC (by omega);have zM:¬((m:Int)+l[k].length<0):=by omega
  simp[aa8,H2,hk,hw,po,zM]
 ·simp[aa8,H2];have Vl:ao T 266 [.list [],.int (l.flatten.length:Nat)] (.list []):=by
   refine .of_ext (g:=fun _ ds=>ze ds) rfl ⟨0,fun _ _=>?_⟩;show(if(0:Int)≤(l.flatten.length:Nat)∧((l.flatten.length:Nat):Int)≤4294967296 then some (D.list []) else none)=some (D.list []);rw[if_pos (by omega)]
  rw[List.length_flatten] at Vl;refine⟨_,Vl,?_⟩;refine aT.forRounds l.length (fun k=>[.none,.int k]) (fun k=>[ints (l.take k).flatten]) ?_ (fun k hk=>?_) ?_
  ·simp[ints]
  ·have hw:=bu hk (by omega);have h1:=bB k hk;have h2:=hb (k+1);rw[h1] at h2 ⊢;rw[List.length_append] at h2;generalize (l.take k).flatten=m at*;simp[aa9,H3,hk,hw];omega
  ·simp[aa9,H3]
theorem ahV {op:Int}{l:List Cell}(h:(fK op l).known=false):fK op l=dh:=by
 have hy:∀b,(fH b).known=true:=fun b=>by cases b<;>simp[fH]
 unfold fK at h ⊢;split<;>rename_i c1
 ·rw[if_pos c1] at h;split<;>rename_i c2
  ·rw[if_pos c2,hy] at h;cases h
  ·rfl
 rw[if_neg c1] at h;split<;>rename_i c2
 ·rw[if_pos c2,hy] at h;cases h
 rw[if_neg c2] at h;split<;>rename_i c3
 ·rw[if_pos c3] at h;split<;>rename_i c4
  ·rw[if_pos c4,c4.1] at h;cases h
  ·rfl
 rw[if_neg c3] at h;split<;>rename_i c4
 ·rfl
 rw[if_neg c4] at h
 repeat' split at h
 all_goals first|(rw[hy] at h;cases h)|cases h
theorem abV:∀(L:Nat) (cs:List Cell) (t:Tm) (k:Int),t.OK→cr L t≤60→bZ L t=(k,0)→ao T E4 [Kf cs,de t] (.tup [cA (bC L cs t),ints (dw L cs t)])
 |0,cs,t,k,ht,hm,hc=>by simp[cr] at hm
 |L+1,cs,t,k,ht,hm,hc=>by
  refine .of_tree rfl SU awY ?_;obtain⟨hl,hp⟩:=MS hm;obtain⟨ha,_⟩:=J0 hc;obtain⟨hn,aBH⟩:=J1 hc;have gj:∀a,a∈t.args→ao T E4 [Kf cs,de a] (.tup [cA (bC L cs a),ints (dw L cs a)]):=fun a dZ=>abV L cs a (bZ L a).1 (ht.arg dZ) (hp a dZ) (by rw[←ha a dZ]);have zZ:∀a,a∈t.args→rG (bZ L a).1 (bC L cs a):=fun a dZ=>Uh cs (show bZ L a=((bZ L a).1,0) by rw[←ha a dZ]);have VH:∀a,a∈t.args→(dw L cs a).length≤60:=fun a dZ=>by have:=Yx L cs a (hp a dZ);have:=hp a dZ;omega
  by_cases gx:t.op=0∨t.op=1
  ·
   have e1:bC (L+1) cs t=⟨true,t.n⟩:=by rw[DC,if_pos gx]
   have e2:dw (L+1) cs t=[]:=by rw[E5,if_pos gx]
   rw[e1,e2];rcases gx with h|h<;>simp[B6,h]<;>exact⟨rfl,rfl⟩
  have o0:t.op≠0:=fun h=>gx (.inl h);have o1:t.op≠1:=fun h=>gx (.inr h);by_cases o2:t.op=2
  ·have hv:0≤t.n:=by
    cases hn with
    |var h0 ha hn=>exact hn.1
    |_=>omega
   have e1:bC (L+1) cs t=jR cs t.n:=by rw[DC,if_neg gx,if_pos o2]
   have e2:dw (L+1) cs t=if(jR cs t.n).known=true then[] else[t.n]:=by rw[E5,if_neg gx,if_pos o2]
   rw[e1,e2];simp[B6,o2];refine⟨_,au3 cs t.n hv,?_⟩;cases e:(jR cs t.n).known
   ·have:jR cs t.n=dh:=by
     unfold jR at e ⊢;split
     ·rfl
     ·rename_i h;rw[if_neg h] at e;split at e
      ·cases hb:decide ((cellAt cs t.n).n≠0)<;>rw[hb] at e<;>cases e
      ·cases e
    rw[this];simp[ints]
   ·have h:jR cs t.n=⟨true,(jR cs t.n).n⟩:=by rw[←e]
    rw[h];simp[ints]
    try rfl
  have hlen:1≤t.args.length∧(t.op≠3→2≤t.args.length)∧(t.op=6→3≤t.args.length):=by
   cases hn with
   |int h0 ha hn=>omega
   |bool h0 ha hn=>omega
   |var h0 ha hn=>omega
   |not h0 hk=>obtain⟨a,hl,_⟩:=arC hk;rw[hl];simp;omega
   |log h0 hk=>obtain⟨a,b,hl,_⟩:=vz hk;rw[hl];simp;omega
   |ite k h0 hk=>obtain⟨a,b,c,hl,_⟩:=MQ hk;rw[hl];simp
   |less h0 hk=>obtain⟨a,b,hl,_⟩:=vz hk;rw[hl];simp;omega
   |equal k h0 hk=>obtain⟨a,b,hl,_⟩:=vz hk;rw[hl];simp;omega
   |num h0 hk=>obtain⟨a,b,hl,_⟩:=vz hk;rw[hl];simp;omega
  have hb9:9≤t.op→(-1099511627776≤(bf (t.args.map (bC L cs)) 0).n∧(bf (t.args.map (bC L cs)) 0).n≤1099511627776)∧(-1099511627776≤(bf (t.args.map (bC L cs)) 1).n∧(bf (t.args.map (bC L cs)) 1).n≤1099511627776):=by
   intro h9;have rb:∀c:Cell,rG 0 c→-1099511627776≤c.n∧c.n≤1099511627776:=by
    intro c hr;cases e:c.known with
    |false=>rw[hr.1 e];simp
    |true=>exact(hr.2 e).2 rfl
   cases hn with
   |num h0 hk=>
    obtain⟨a,b,hl,ea,eb⟩:=vz hk;rw[hl] at zZ ⊢;have r1:=zZ a (by simp);have r2:=zZ b (by simp);rw[ea] at r1;rw[eb] at r2;exact⟨rb _ r1,rb _ r2⟩
   |log h0 hk=>omega
   |_=>omega
  have h6:t.op=6→(bf (t.args.map (bC L cs)) 0).known=true→(bf (t.args.map (bC L cs)) 0).n=0∨(bf (t.args.map (bC L cs)) 0).n=1:=by
   intro o6 zF;cases hn with
   |ite k h0 hk=>
    obtain⟨a,b,c,hl,ea,_⟩:=MQ hk;rw[hl] at zZ zF ⊢;have r1:=zZ a (by simp);rw[ea] at r1;exact(r1.2 zF).1 rfl
   |log h0 hk=>omega
   |num h0 hk=>omega
   |_=>omega
  have bE:t.op<3∨8<t.op→9≤t.op:=by
   cases hn with
   |log h0 hk=>omega
   |num h0 hk=>omega
   |_=>omega
  have e1:bC (L+1) cs t=if t.op=6∧(bf (t.args.map (bC L cs)) 0).known=true then bf (t.args.map (bC L cs)) (2-(bf (t.args.map (bC L cs)) 0).n).toNat else fK t.op (t.args.map (bC L cs)):=by
   rw[DC,if_neg gx,if_neg o2]
  have e2:dw (L+1) cs t=if t.op=6∧(bf (t.args.map (bC L cs)) 0).known=true then(t.args.map (dw L cs)).getD (2-(bf (t.args.map (bC L cs)) 0).n).toNat [] else if(fK t.op (t.args.map (bC L cs))).known=true then[] else(t.args.map (dw L cs)).flatten:=by
   rw[E5,if_neg gx,if_neg o2]
  rw[e1,e2];simp[B6,o0,o1,o2];refine⟨by omega,?_⟩;refine aT.forRounds t.args.length (fun k=>[.int k]) (fun k=>[cells ((t.args.map (bC L cs)).take k++List.replicate (t.args.length-k) dh),lists ((t.args.map (dw L cs)).take k++List.replicate (t.args.length-k) [])]) ?_ (fun k hk=>?_) ?_
  ·simp[cells,lists,ints]
  ·have hw:=bu hk (by omega);have cE:=List.getElem_mem hk;have hr:=gj _ cE;have s1:=PU (t.args.map (bC L cs)) dh (n:=t.args.length) (by simp) hk;have s2:=PU (t.args.map (dw L cs)) [] (n:=t.args.length) (by simp) hk;rw[←s1,←s2];have l1:((t.args.map (bC L cs)).take k++List.replicate (t.args.length-k) dh).length=t.args.length:=by simp;omega
   have l2:((t.args.map (dw L cs)).take k++List.replicate (t.args.length-k) []).length=t.args.length:=by simp;omega
   have g1:(t.args.map (bC L cs))[k]'(by simpa using hk)=bC L cs t.args[k]:=by simp
   have g2:(t.args.map (dw L cs))[k]'(by simpa using hk)=dw L cs t.args[k]:=by simp
   rw[g1,g2];generalize (t.args.map (bC L cs)).take k++List.replicate (t.args.length-k) dh=A at*;generalize (t.args.map (dw L cs)).take k++List.replicate (t.args.length-k) []=B at*;generalize bC L cs t.args[k]=c at*;generalize dw L cs t.args[k]=d at*;simp[Pz,BJ,hk];refine⟨_,hr,?_⟩;simp[hw,hk,l1,l2,cells,lists]
  ·have hA:(t.args.map (bC L cs)).take t.args.length++List.replicate (t.args.length-t.args.length) dh=t.args.map (bC L cs):=by rw[Nat.sub_self,List.replicate_zero,List.append_nil,List.take_of_length_le (by simp)]
   have hB:(t.args.map (dw L cs)).take t.args.length++List.replicate (t.args.length-t.args.length) []=t.args.map (dw L cs):=by rw[Nat.sub_self,List.replicate_zero,List.append_nil,List.take_of_length_le (by simp)]
   have lA:(t.args.map (bC L cs)).length=t.args.length:=by simp
   have lB:(t.args.map (dw L cs)).length=t.args.length:=by simp
   have ja:∀l:List Tm,(∀a,a∈l→a∈t.args)→((l.map (dw L cs)).flatten.length≤l.length*60):=by
    intro l
    induction l with
    |nil=>intro _;simp
    |cons a l ih=>
     intro h;have h1:=VH a (h a (by simp));have h2:=ih (fun b hb=>h b (by simp[hb]));rw[List.map_cons,List.flatten_cons,List.length_append,List.length_cons];omega
   have ja:=ja t.args (fun a h=>h);have hBg:∀m:Nat,(Option.map (dw L cs) t.args[m]?).getD []=(t.args.map (dw L cs)).getD m []:=fun m=>by simp[List.getD_eq_getElem?_getD]
   rw[hA,hB];generalize t.args.map (bC L cs)=A at*;generalize t.args.map (dw L cs)=B at*;have g0:0<A.length:=by omega
   have rT:A[0]=bf A 0:=by simp[bf,g0]
   by_cases DU:t.op=6∧(bf A 0).known=true
   ·obtain⟨o6,kn⟩:=DU;have hv:=h6 o6 kn;have hw:IntKind.i64.wrap (2-(bf A 0).n)=2-(bf A 0).n:=cC (by omega);have h3:3≤t.args.length:=hlen.2.2 o6;rw[if_pos ⟨o6,kn⟩,if_pos ⟨o6,kn⟩];obtain⟨m,dZ⟩:∃m:Nat,m=(2-(bf A 0).n).toNat:=⟨_,rfl⟩
    have zJ:m<A.length:=by omega
    have La:m<B.length:=by omega
    simp[Pz,BJ,o6,kn,g0,rT,hw,←dZ,zJ,La,cells,lists];refine⟨by omega,by omega,by simp[bf,zJ],?_⟩;rw[hBg,List.getD_eq_getElem?_getD,List.getElem?_eq_getElem La];rfl
   ·rw[if_neg DU,if_neg DU];have amK:=auZ t.op A (by omega) (by omega) (by omega) hb9 bE;have amM:=ac7 B (by omega) (by omega);simp[Pz,BJ,g0,rT];rw[if_neg DU];refine⟨_,amK,?_⟩;cases e:(fK t.op A).known
    ·have ec:fK t.op A=dh:=ahV e;rw[ec];simp;exact amM
    ·have h:fK t.op A=⟨true,(fK t.op A).n⟩:=by rw[←e]
     rw[h];simp[ints]
     try rfl
end Rm
namespace Rm
open Go Go.Proofs Cx
def kY (n:Nat)(g:Nat→Bool):Int:=if(List.range n).findIdx g<n then((List.range n).findIdx g:Nat) else-1
theorem Al (n:Nat)(g:Nat→Bool):(kY n g=-1∧∀k,k<n→g k=false)∨∃k:Nat,k<n∧kY n g=k∧g k=true∧∀i,i<k→g i=false:=by
 unfold kY;split
 ·rename_i h;refine .inr ⟨_,h,rfl,?_,fun i hi=>?_⟩
  ·have:=List.findIdx_getElem (p:=g) (xs:=List.range n) (w:=by simpa using h);simpa using this
  ·have:=List.not_of_lt_findIdx (p:=g) (xs:=List.range n) hi;simpa using this
 ·rename_i h;refine .inl ⟨rfl,fun k hk=>?_⟩;have:=List.not_of_lt_findIdx (p:=g) (xs:=List.range n) (i:=k) (by omega);simpa using this
theorem Mb {n:Nat}{g:Nat→Bool}(h:∀k,k<n→g k=false):kY n g=-1:=by
 rcases Al n g with⟨h1,_⟩|⟨k,hk,_,h2,_⟩
 ·exact h1
 ·rw[h k hk] at h2;cases h2
theorem Mc {n k:Nat}{g:Nat→Bool}(hk:k<n)(h:g k=true)(hj:∀i,i<k→g i=false):kY n g=k:=by
 rcases Al n g with⟨_,h1⟩|⟨m,hm,h1,h2,h3⟩
 ·rw[h1 k hk] at h;cases h
 ·rcases Nat.lt_trichotomy m k with h4|h4|h4
  ·rw[hj m h4] at h2;cases h2
  ·rw[h1,h4]
  ·rw[h3 k h4] at h;cases h
theorem Wk (n:Nat)(g:Nat→Bool):decide (0≤kY n g)=(List.range n).any g:=by
 rcases Al n g with⟨h1,h2⟩|⟨m,hm,h1,h2,h3⟩
 ·rw[h1]
  symm
  simp;exact h2
 ·rw[h1];simp;exact⟨m,hm,h2⟩
theorem adf (l:List Rule)(f:Nat)(caps:List D)(g:Nat→Bool)(hg:∀k (hk:k<l.length),ao T f (oN l[k]::caps) (.bool (g k)))(hl:l.length≤4294967296):
 ao T Na [rules l,.clo f caps] (.int (kY l.length g)):=by
 refine .of_tree rfl SL awC ?_;simp[Rr];refine .scan l.length (fun k=>g k=false) (fun k=>[.int 0,.int k]) (fun _=>[]) ?_ (fun k hk hj ho=>?_) (fun k hk hj ho=>?_) (fun hj=>?_)
 ·simp
 ·have hw:=bu hk hl;simp[Pt,BE,hk,hw];refine⟨_,_,⟨rfl,rfl⟩,_,hg k hk,?_⟩;simp[ho,hw]
 ·have he:=Mc hk (by simpa using ho) hj;simp[Pt,BE,hk,he];refine⟨_,_,⟨rfl,rfl⟩,_,hg k hk,?_⟩;simp[ho]
 ·have he:=Mb hj;simp[Pt,BE,he]
theorem adg (l:List Int)(f:Nat)(caps:List D)(g:Nat→Bool)(hg:∀k (hk:k<l.length),ao T f (.int l[k]::caps) (.bool (g k)))(hl:l.length≤4294967296):
 ao T Yi [ints l,.clo f caps] (.int (kY l.length g)):=by
 refine .of_tree rfl ae6 awD ?_;simp[Rs];refine .scan l.length (fun k=>g k=false) (fun k=>[.int 0,.int k]) (fun _=>[]) ?_ (fun k hk hj ho=>?_) (fun k hk hj ho=>?_) (fun hj=>?_)
 ·simp
 ·have hw:=bu hk hl;simp[Pu,BF,hk,hw,ints];refine⟨_,_,⟨rfl,rfl⟩,_,hg k hk,?_⟩;simp[ho,hw]
 ·have he:=Mc hk (by simpa using ho) hj;simp[Pu,BF,hk,he,ints];refine⟨_,_,⟨rfl,rfl⟩,_,hg k hk,?_⟩;simp[ho]
 ·have he:=Mb hj;simp[Pu,BF,he,ints]
theorem ade (l:List Alter)(f:Nat)(caps:List D)(g:Nat→Bool)(hg:∀k (hk:k<l.length),ao T f (mA l[k]::caps) (.bool (g k)))(hl:l.length≤4294967296):
 ao T Yh [alters l,.clo f caps] (.int (kY l.length g)):=by
 refine .of_tree rfl ae5 awB ?_;simp[Rq];refine .scan l.length (fun k=>g k=false) (fun k=>[.int 0,.int k]) (fun _=>[]) ?_ (fun k hk hj ho=>?_) (fun k hk hj ho=>?_) (fun hj=>?_)
 ·simp
 ·have hw:=bu hk hl;simp[Ps,BD,hk,hw];refine⟨_,_,⟨rfl,rfl⟩,_,hg k hk,?_⟩;simp[ho,hw]
 ·have he:=Mc hk (by simpa using ho) hj;simp[Ps,BD,hk,he];refine⟨_,_,⟨rfl,rfl⟩,_,hg k hk,?_⟩;simp[ho]
 ·have he:=Mb hj;simp[Ps,BD,he]
theorem ac9 (l:List Int)(f:Nat)(caps:List D)(g:Nat→Bool)(hg:∀k (hk:k<l.length),ao T f (.int l[k]::caps) (.bool (g k)))(hl:l.length≤4294967296):
 ao T Yf [ints l,.clo f caps] (.bool ((List.range l.length).any g)):=by
 refine .of_tree rfl ae3 awy ?_;simp[Rn];refine⟨_,adg l f caps g hg hl,?_⟩;have:=Wk l.length g;simp[←this]
theorem ac8 (l:List Alter)(f:Nat)(caps:List D)(g:Nat→Bool)(hg:∀k (hk:k<l.length),ao T f (mA l[k]::caps) (.bool (g k)))(hl:l.length≤4294967296):
 ao T Ye [alters l,.clo f caps] (.bool ((List.range l.length).any g)):=by
 refine .of_tree rfl ae2 awx ?_;simp[Rm];refine⟨_,ade l f caps g hg hl,?_⟩;have:=Wk l.length g;simp[←this]
def uC (cs:List Cell)(t:Tm):Cell:=if(lu t).2=0 then bC 8 cs t else dh
theorem ahJ {t:Tm}(h:(lu t).2=0):cr 8 t≤60∧bZ 8 t=((lu t).1,0):=by
 unfold lu at h ⊢;split at h
 ·cases h
 ·rename_i hm;rw[if_neg hm];exact⟨by omega,by rw[←h]⟩
theorem auX (t:Tm)(cs:List Cell)(ht:t.OK):ao T Ys [de t,cells cs] (cA (uC cs t)):=by
 refine .of_tree rfl afh awQ ?_;simp[RC,uC];refine⟨_,abT t ht,?_⟩;by_cases h:(lu t).2=0
 ·obtain⟨h1,h2⟩:=ahJ h;simp[h];refine⟨_,abV 8 cs t _ ht h1 h2,?_⟩;simp
  try rfl
 ·simp[h]
  try rfl
def Nr:List Int:=[6,7,10,12,13,14,15,16,20,21]
def jv (ask:Int):Int×Bool:=if ask<0∨22≤ask then(0,false) else if hasB Nr ask then(0,true) else(1,true)
theorem N0 (ask:Int):ao T MY [.int ask] (.tup [.int (jv ask).1,.bool (jv ask).2]):=by
 refine .of_tree rfl SF avJ ?_;simp[Qy,jv];by_cases h0:ask<0
 ·simp[h0]
 by_cases h1:22≤ask
 ·simp[h0,h1]
 simp[h0,h1];refine⟨_,tX Nr ask (by decide),?_⟩;cases h:hasB Nr ask<;>simp[h]
def E6:Tm:=⟨0,0,[]⟩
def ri (o:Order)(ask:Int)(k:Nat):Bool:=decide ((o.rules.getD k default).ask=ask)
def BS (o:Order)(i:Int):Tm:=(o.rules.getD i.toNat default).term
def findF (o:Order)(ask:Int):Tm×Int:=
 if(jv ask).2=false then(E6,1) else if kY o.rules.length (ri o ask)<0 then(E6,4) else
    if(lu (BS o (kY o.rules.length (ri o ask)))).2≠0∨(lu (BS o (kY o.rules.length (ri o ask)))).1≠(jv ask).1 then(E6,11) else(BS o (kY o.rules.length (ri o ask)),0)
theorem abx {o:Order}(ho:o.OK){m:Nat}(hm:m<o.rules.length):o.rules[m].term.OK:=(ho.2.2 _ (List.getElem_mem hm)).2
theorem Nq:E6.OK:=by
 exact .mk 0 0 [] (by unfold aV;omega) (by unfold aV;omega) (by decide) (fun _ h=>by cases h)
theorem ajm {o:Order}(ho:o.OK)(ask:Int):(findF o ask).1.OK:=by
 unfold findF;split
 ·exact Nq
 split
 ·exact Nq
 split
 ·exact Nq
 ·rename_i h _;rcases Al o.rules.length (ri o ask) with⟨h1,h2⟩|⟨m,hm,h1,h2,h3⟩
  ·exact absurd (by rw[h1];decide) h
  ·rw[h1];simp[BS,hm];exact abx ho hm
theorem ajk (r:Rule)(ask:Int):ao T E1 [oN r,.ref (.int ask)] (.bool (decide (r.ask=ask))):=by
 refine .of_tree rfl SH avK ?_;simp[QA]
theorem as4 (o:Order)(ask:Int)(ho:o.OK)(hl:o.rules.length≤4294967296):ao T MZ [gr o,.int ask] (.tup [de (findF o ask).1,.int (findF o ask).2]):=by
 refine .of_tree rfl SG avL ?_;simp[Qz,findF];refine⟨_,N0 ask,?_⟩;cases h0:(jv ask).2
 ·simp[h0]
  try rfl
 simp[h0];refine⟨_,adf o.rules E1 [.ref (.int ask)] (ri o ask) (fun k hk=>by simpa [ri,hk] using ajk o.rules[k] ask) hl,?_⟩;rcases Al o.rules.length (ri o ask) with⟨h1,h2⟩|⟨m,hm,h1,h2,h3⟩
 ·rw[h1];simp
  try rfl
 ·rw[h1];have zM:¬((m:Int)<0):=by omega
  have htm:o.rules[m].term.OK:=abx ho hm;simp[hm,BS,zM];refine⟨_,abT _ htm,?_⟩;by_cases h4:(lu o.rules[m].term).2=0<;>by_cases h5:(lu o.rules[m].term).1=(jv ask).1<;>simp[h4,h5]<;>try rfl
def p8 (o:Order)(ask:Int)(cs:List Cell):Cell×Int:=
 if(findF o ask).2≠0 then(dh,(findF o ask).2) else
    (if(jv ask).1=0∧(uC cs (findF o ask).1).known=true then⟨true,min (max (uC cs (findF o ask).1).n 0) 20000⟩ else uC cs (findF o ask).1,0)
theorem Z6 (o:Order)(ask:Int)(cs:List Cell)(ho:o.OK)(hl:o.rules.length≤4294967296):ao T XB [gr o,.int ask,cells cs] (.tup [cA (p8 o ask cs).1,.int (p8 o ask cs).2]):=by
 refine .of_tree rfl aeg avH ?_;simp[Qx];refine⟨_,as4 o ask ho hl,?_⟩;have hf:(findF o ask).1.OK:=ajm ho ask;by_cases h:(findF o ask).2=0
 ·simp[h,p8];refine⟨_,auX _ cs hf,_,N0 ask,?_⟩;generalize uC cs (findF o ask).1=c;obtain⟨kn,n⟩:=c;by_cases h1:(jv ask).1=0
  ·cases kn
   ·simp[h1,cA]
   ·by_cases h2:n<0
    ·have:min (max n 0) 20000=0:=by omega
     simp[h1,cA,h2,this];rfl
    ·by_cases h3:20000<n
     ·have:min (max n 0) 20000=20000:=by omega
      simp[h1,cA,h2,h3,this];rfl
     ·have:min (max n 0) 20000=n:=by omega
      simp[h1,cA,h2,h3,this];rfl
  ·simp[h1,cA]
 ·simp[h,p8]
  try rfl
end Rm
namespace Rm
open Go Go.Proofs Cx
theorem abi (b:Bool):ao T Yb [.bool b] (cA (fH b)):=by
 refine .of_tree rfl aeZ awt ?_;cases b<;>simp[Rj,fH]<;>rfl
def DE (kind sign:Int)(x:Fact):Bool:=decide (x.kind=kind)&&decide (x.at_=sign)
def jy (f:File)(kind sign:Int):Cell:=match f.facts.find? (DE kind sign) with|none=>dh|some x=>fH (decide (x.n≠0))
theorem y4 {α:Type}{p:α→Bool}:∀{l:List α} {k:Nat} (hk:k<l.length),p l[k]=true→(∀j (hj:j<k),p (l[j]'(by omega))=false)→l.find? p=some l[k]
 |a::l,0,hk,h,hj=>by simp at h;simp[h]
 |a::l,k+1,hk,h,hj=>by
  have h0:=hj 0 (by omega);simp at h0;simp only[List.find?_cons,h0,List.getElem_cons_succ];exact y4 (by simpa using hk) (by simpa using h) (fun j bR=>by simpa using hj (j+1) (by omega))
theorem DG {α:Type}{p:α→Bool}{l:List α}(h:∀j (hj:j<l.length),p l[j]=false):l.find? p=none:=by
 rw[List.find?_eq_none];intro x hx;obtain⟨j,hj,rfl⟩:=List.getElem_of_mem hx;rw[h j hj];decide
theorem BN (f:File)(kind sign:Int)(hl:f.facts.length≤4294967296):ao T X7 [fh f,.int kind,.int sign] (cA (jy f kind sign)):=by
 refine .of_tree rfl aeV awp ?_;simp[Rg];refine .scan f.facts.length (fun k=>DE kind sign (f.facts.getD k default)=false) (fun k=>[.int k]) (fun _=>[cA dh]) ?_ (fun k hk hj ho=>?_) (fun k hk hj ho=>?_) (fun hj=>?_)
 ·simp
 ·have hw:=bu hk hl;simp[hk,DE] at ho;by_cases h1:f.facts[k].kind=kind<;>by_cases h2:f.facts[k].at_=sign
  ·exact absurd h2 (ho h1)
  all_goals simp[Po,BA,hk,hw,h1,h2]
 ·have hw:=bu hk hl;have hf:jy f kind sign=fH (decide (f.facts[k].n≠0)):=by
   unfold jy;rw[y4 hk (by simpa [hk] using ho) (fun j bR=>by have:=hj j bR;simpa [show j<f.facts.length by omega] using this)]
  simp[hk,DE] at ho;simp[Po,BA,hk,hw,ho,hf];refine⟨_,abi _,?_⟩;simp
  try rfl
 ·have hf:jy f kind sign=dh:=by
   unfold jy;rw[DG (fun j bR=>by have:=hj j bR;simpa [bR] using this)]
  simp[Po,BA,hf]
  try rfl
def bL (r:Realm)(c:Int):Int:=if aN c r.cities.length=true then(r.cities.getD c.toNat default).order else-1
theorem lY (r:Realm)(c:Int):ao T M6 [bm r,.int c] (.int (bL r c)):=by
 refine .of_tree rfl aeI awc ?_;simp[Q3,bL];refine⟨_,eM c r.cities.length,?_⟩;cases h:aN c r.cities.length
 ·simp[h]
 ·simp[aN] at h;have h1:c.toNat<r.cities.length:=by omega
  simp[h,h1]
def IM (day:Int)(l:List Sign):List Sign:=l.takeWhile fun s=>decide (s.day≤day)
def upA (day:Int)(l:List Act):List Act:=l.takeWhile fun s=>decide (s.day≤day)
def np (n:Nat)(a:Alter):Bool:=decide (a.at_≤(n:Int))
def oQ (n:Nat)(x:Fact):Bool:=aN x.at_ n
def cw (f:File)(day:Int):File:=
 ⟨f.bill,IM day f.signs,f.alters.filter (np (IM day f.signs).length),upA day f.acts,f.facts.filter (oQ (IM day f.signs).length)⟩
theorem IK {α:Type}(p:α→Bool):∀(l:List α),∃m,m≤l.length∧l.takeWhile p=l.take m∧(∀k (hk:k<l.length),k<m→p l[k]=true)∧(∀hk:m<l.length,p l[m]=false)
 |[]=>⟨0,by simp,by simp,fun k hk=>by simp at hk,fun hk=>by simp at hk⟩
 |a::l=>by
  by_cases h:p a=true
  ·obtain⟨m,h1,h2,h3,h4⟩:=IK p l;refine⟨m+1,by simp;omega,by simp[h,h2],fun k hk hm=>?_,fun hk=>?_⟩
   ·cases k with
    |zero=>simpa using h
    |succ k=>simpa using h3 k (by simpa using hk) (by omega)
   ·simpa using h4 (by simpa using hk)
  ·refine⟨0,by simp,by simp[h],fun k hk hm=>by omega,fun hk=>by simpa using h⟩
theorem Iv {α:Type}(p:α→Bool)(l:List α){k:Nat}(hk:k<l.length):(l.take (k+1)).filter p=(l.take k).filter p++if p l[k] then[l[k]] else[]:=by
 rw[List.take_succ_eq_append_getElem hk,List.filter_append]
 congr 1
 cases h:p l[k]<;>simp[h]
def xc (b:Bill)(w x y z:D):D:=.agg [.int b.drawer,.int b.drawee,.int b.payee,.int b.sum,.int b.currency,.int b.tenor.kind,.int b.tenor.n,.int b.tenor.unit,.int b.day,.int b.city,.int b.pay,.int b.need,.int b.rate,.int b.flags,.int b.parts,w,x,y,z]
def lJ {α:Type}(l:List α):D:=match l with|[]=>.list []|_=>.none
@[simp] theorem aBT {α:Type}:lJ ([]:List α)=.list []:=rfl
@[simp] theorem aBS {α:Type}(l:List α)(x:α):lJ (l++[x])=.none:=by cases l<;>rfl
theorem PD (f:File)(day:Int)(h1:f.signs.length≤4294967295)(h2:f.acts.length≤4294967295)(h3:f.alters.length≤4294967295)(h4:f.facts.length≤4294967295):ao T X6 [fh f,.int day] (fh (cw f day)):=by
 refine .of_tree rfl aeU awo ?_;simp[Rf];obtain⟨m,hm,hS,UW,uN⟩:=IK (fun s:Sign=>decide (s.day≤day)) f.signs;obtain⟨n,hn,hA,hA1,hA2⟩:=IK (fun s:Act=>decide (s.day≤day)) f.acts;refine aT.forRounds m (fun k=>[.int k]) (fun k=>[signs (f.signs.take k),xc f.bill (lJ (f.signs.take k)) (.list []) (.list []) (.list [])]) ?_ (fun k hk=>?_) ?_
 ·simp[xc,signs]
  try rfl
 ·have bn:k<f.signs.length:=by omega
  have hw:=bu bn (by omega);have hd:=UW k bn hk;simp at hd;have eC:¬day<f.signs[k].day:=by omega
  have hle:(k:Int)+1≤4294967296:=by omega
  have ht:=List.take_succ_eq_append_getElem bn;rw[ht];have hlen:(f.signs.take k).length=k:=by simp;omega
  generalize f.signs.take k=A at*;simp[Pk,Bw,bn,hw,eC,hlen];exact⟨hle,by simp[signs],rfl⟩
 have hSl:(f.signs.take m).length≤4294967295:=by rw[List.length_take];omega
 have Ky:cw f day=⟨f.bill,f.signs.take m,f.alters.filter (np (f.signs.take m).length),f.acts.take n,f.facts.filter (oQ (f.signs.take m).length)⟩:=by
  unfold cw IM upA;rw[hS,hA]
 rw[Ky];generalize f.signs.take m=S at*;have hAl:(f.acts.take n).length≤4294967295:=by rw[List.length_take];omega
 by_cases dZ:m<f.signs.length
 case' pos=>
  have hd:=uN dZ;simp at hd;simp[Pk,Bw,dZ,hd];generalize D.bool true=bb
 case' neg=>
  have zI:m=f.signs.length:=by omega
  simp[Pk,Bw,dZ,zI];generalize D.bool false=bb
 all_goals
  refine aT.forRounds n (fun k=>[.int k]) (fun k=>[acts (f.acts.take k),xc f.bill (lJ S) (.list []) (lJ (f.acts.take k)) (.list [])]) ?_ (fun k hk=>?_) ?_
  ·simp[acts]
  ·have bn:k<f.acts.length:=by omega
   have hw:=bu bn (by omega);have hd:=hA1 k bn hk;simp at hd;have eC:¬day<f.acts[k].day:=by omega
   have hle:(k:Int)+1≤4294967296:=by omega
   have ht:=List.take_succ_eq_append_getElem bn;rw[ht];have hlen:(f.acts.take k).length=k:=by simp;omega
   generalize f.acts.take k=A at*;simp[Pl,Bx,bn,hw,eC,hlen];exact⟨hle,by simp[acts],rfl⟩
  generalize f.acts.take n=A at*;by_cases gA:n<f.acts.length
  case' pos=>
   have hd:=hA2 gA;simp at hd;simp[Pl,Bx,gA,hd];generalize D.bool true=bc
  case' neg=>
   have qy:n=f.acts.length:=by omega
   simp[Pl,Bx,gA,qy];generalize D.bool false=bc
  all_goals
   refine aT.forRounds f.alters.length (fun k=>[.int k]) (fun k=>[xc f.bill (lJ S) (lJ ((f.alters.take k).filter (np S.length))) (lJ A) (.list []),alters ((f.alters.take k).filter (np S.length))]) ?_ (fun k hk=>?_) ?_
   ·simp[alters]
   ·have hw:=bu hk (by omega);have ht:=Iv (np S.length) f.alters hk;rw[ht];have hlen:((f.alters.take k).filter (np S.length)).length≤k:=Nat.le_trans (List.length_filter_le _ _) (by simp;omega);generalize (f.alters.take k).filter (np S.length)=B at*;by_cases hd:f.alters[k].at_≤(S.length:Int)
    ·simp[Pm,By,np,hk,hw,hd];exact⟨by omega,rfl,by simp[alters]⟩
    ·simp[Pm,By,np,hk,hw,hd]
   simp[Pm,By];generalize f.alters.filter (np S.length)=B at*;refine aT.forRounds f.facts.length (fun k=>[.int k]) (fun k=>[xc f.bill (lJ S) (lJ B) (lJ A) (lJ ((f.facts.take k).filter (oQ S.length))),facts ((f.facts.take k).filter (oQ S.length))]) ?_ (fun k hk=>?_) ?_
   ·simp[facts]
   ·have hw:=bu hk (by omega);have ht:=Iv (oQ S.length) f.facts hk;rw[ht];have hlen:((f.facts.take k).filter (oQ S.length)).length≤k:=Nat.le_trans (List.length_filter_le _ _) (by simp;omega);generalize (f.facts.take k).filter (oQ S.length)=C at*;cases hd:aN f.facts[k].at_ S.length
    ·simp[Pn,Bz,oQ,hk,hw,hd];refine⟨_,m9 _ _,?_⟩;simp[hd,hw]
    ·simp[Pn,Bz,oQ,hk,hw,hd];refine⟨_,m9 _ _,?_⟩;simp[hd,hw];exact⟨by omega,rfl,by simp[facts]⟩
   simp[Pn,Bz];rfl
end Rm
namespace Rm
open Go Go.Proofs Cx
def vD:List Int→Int
 |[]=>-1
 |x::l=>l.foldl min x
theorem adl (x:Int)(l:List Int)(hl:l.length<4294967296):ao T Yk [ints (x::l)] (.int (vD (x::l))):=by
 refine .of_tree rfl ae8 awG ?_;have h0:¬((l.length:Int)+1<1):=by omega
 simp[Rv,h0,vD,ints];refine aT.forRounds l.length (fun k=>[.int ((l.take k).foldl min x),.int ((k:Int)+1)]) (fun k=>[]) ?_ (fun k hk=>?_) ?_
 ·simp
 ·have hw:IntKind.i64.wrap ((k:Int)+1+1)=(k:Int)+1+1:=cC (by omega);rw[List.take_succ_eq_append_getElem hk,List.foldl_append];generalize (l.take k).foldl min x=y;have ht:((k:Int)+1).toNat=k+1:=by omega
  have ah:(k:Int)+1<(l.length:Int)+1:=by omega
  simp[aba,H4,hk,hw,ht,ah];refine⟨by omega,?_⟩;by_cases h:l[k]<y
  ·simp[h];omega
  ·simp[h];omega
 ·simp[aba,H4]
def ll (f:File)(n:Nat):List Int:=if f.bill.tenor.kind=1 then((f.signs.take n).filter (fun s=>decide (s.kind=1))).map (·.day) else[]
def jN (f:File)(n:Nat):List Int:=if f.bill.tenor.kind=1 then((f.acts.take n).filter (fun s=>decide (s.kind=1))).map (·.day) else[]
def BY (f:File)(a:Act):Bool:=decide (f.bill.tenor.kind=0)&&decide (a.kind=2)
def rl (f:File):Int:=match f.acts.find? (BY f) with|some a=>a.day|none=>vD (ll f f.signs.length++jN f f.acts.length)
theorem aub (f:File)(h1:f.signs.length≤100000)(h2:f.acts.length≤100000):ao T X8 [fh f] (.int (rl f)):=by
 refine .of_tree rfl aeW awq ?_;simp[Rh];refine aT.forRounds f.signs.length (fun k=>[.none,.int k]) (fun k=>[ints (ll f k)]) ?_ (fun k hk=>?_) ?_
 ·simp[ll,ints]
 ·have hw:=bu hk (by omega);have hs:ll f (k+1)=ll f k++if f.bill.tenor.kind=1∧f.signs[k].kind=1 then[f.signs[k].day] else[]:=by
   unfold ll;by_cases h:f.bill.tenor.kind=1
   ·simp only[if_pos h,Iv _ _ hk,List.map_append,h,true_and]
    congr 1
    by_cases h':f.signs[k].kind=1<;>simp[h']
   ·simp[h]
  have hlen:(ll f k).length≤k:=by
   unfold ll;split
   ·rw[List.length_map];exact Nat.le_trans (List.length_filter_le _ _) (by simp;omega)
   ·simp
  rw[hs];generalize ll f k=A at*;by_cases hc:f.bill.tenor.kind=1∧f.signs[k].kind=1
  ·simp[Pp,BB,hk,hw,hc];exact⟨by omega,by simp[ints]⟩
  ·simp[Pp,BB,hk,hw,hc]
 ·have hlS:(ll f f.signs.length).length≤100000:=by
   unfold ll;split
   ·rw[List.length_map];exact Nat.le_trans (List.length_filter_le _ _) (by simp;omega)
   ·simp
  have hE:rl f=match f.acts.find? (BY f) with|some a=>a.day|none=>vD (ll f f.signs.length++jN f f.acts.length):=rfl
  generalize ll f f.signs.length=A at*;simp[Pp,BB];refine aT.scan f.acts.length (fun k=>BY f (f.acts.getD k default)=false) (fun k=>[.int 0,.none,.int k]) (fun k=>[ints (A++jN f k)]) ?_ (fun k hk hj ho=>?_) (fun k hk hj ho=>?_) (fun hj=>?_)
  ·simp[jN,ints]
  ·have hw:=bu hk (by omega);have hs:jN f (k+1)=jN f k++if f.bill.tenor.kind=1∧f.acts[k].kind=1 then[f.acts[k].day] else[]:=by
        unfold jN;by_cases h:f.bill.tenor.kind=1
        ·simp only[if_pos h,Iv _ _ hk,List.map_append,h,true_and]
         congr 1
         by_cases h':f.acts[k].kind=1<;>simp[h']
        ·simp[h]
   have hlen:(jN f k).length≤k:=by
        unfold jN;split
        ·rw[List.length_map];exact Nat.le_trans (List.length_filter_le _ _) (by simp;omega)
        ·simp
   rw[hs];generalize jN f k=B at*;simp[BY,hk] at ho;by_cases hc:f.bill.tenor.kind=1∧f.acts[k].kind=1
   ·simp[BC,tJ,hk,hw,hc];exact⟨by omega,by simp[ints]⟩
   ·have hn:¬(f.bill.tenor.kind=0∧f.acts[k].kind=2):=fun h=>ho h.1 h.2;simp[BC,tJ,hk,hw,hc,hn]
  ·have hf:rl f=f.acts[k].day:=by
        rw[hE,y4 hk (by simpa [hk] using ho) (fun j bR=>by have:=hj j bR;simpa [show j<f.acts.length by omega] using this)]
   simp[BY,hk] at ho;simp[BC,tJ,hk,ho,hf]
  ·have hf:rl f=vD (A++jN f f.acts.length):=by
        rw[hE,DG (fun j bR=>by have:=hj j bR;simpa [bR] using this)]
   have hlA:(jN f f.acts.length).length≤100000:=by
        unfold jN;split
        ·rw[List.length_map];exact Nat.le_trans (List.length_filter_le _ _) (by simp;omega)
        ·simp
   rw[hf];have hL:(A++jN f f.acts.length).length≤200000:=by rw[List.length_append];omega
   generalize A++jN f f.acts.length=L at*;cases L with
   |nil=>simp[BC,tJ,vD,ints]
   |cons x l=>
    have aB:¬((l.length:Int)+1=0):=by omega
    simp[BC,tJ,aB];exact adl x l (by simp at hL;omega)
end Rm
namespace Rm
open Go Go.Proofs Cx
def fJ (g:Nat→Cell):D:=.list ((List.range 20).map fun i=>cA (g i))
theorem Tk {g g':Nat→Cell}(h:∀i,i<20→g i=g' i):fJ g=fJ g':=by
 unfold fJ
 congr 1
 exact List.map_congr_left fun i hi=>by rw[h i (by simpa using hi)]
theorem Tl (g:Nat→Cell)(k:Nat)(c:Cell):D.list ((fJ g).l.set k (cA c))=fJ (fun i=>if i=k then c else g i):=by
 unfold fJ
 congr 1
 show((List.range 20).map fun i=>cA (g i)).set k (cA c)=_;apply List.ext_getElem
 ·simp
 ·intro i h1 h2;simp at h2;rw[List.getElem_set];by_cases h:k=i
  ·simp[h]
  ·have h':¬i=k:=fun e=>h e.symm;simp[h,h']
@[simp] theorem az1 (g:Nat→Cell):(fJ g).l.length=20:=by
  show((List.range 20).map fun i=>cA (g i)).length=20;simp
theorem Cr (g:Nat→Cell){k:Nat}(hk:k<20):(fJ g).l[k]?.getD D.none=cA (g k):=by
 show((List.range 20).map fun i=>cA (g i))[k]?.getD D.none=cA (g k);simp[hk]
theorem afX (g:Nat→Cell){k:Nat}(hk:k<(fJ g).l.length):(fJ g).l[k]=cA (g k):=by
 have h:=Cr g (k:=k) (by simpa using hk);rw[List.getElem?_eq_getElem hk] at h;exact h
theorem afZ (g:Nat→Cell)(k:Nat)(c:Cell):(fJ g).l.set k (cA c)=(fJ (fun i=>if i=k then c else g i)).l:=congrArg D.l (Tl g k c)
theorem afY (g:Nat→Cell):D.list (fJ g).l=fJ g:=rfl
@[simp] theorem aDG (x:Cell)(b:Bool)(n:Int):ru (cA x) 0 (D.agg [D.bool b,D.int n])=cA ⟨b,n⟩:=_root_.id rfl
def uD {α:Type}(l:List (Int×α))(val:α→Cell)(g0:Nat→Cell)(i:Nat):Cell:=match l.find? (fun p=>decide (p.1=(i:Int))) with|some p=>val p.2|none=>g0 i
def nT {α:Type}(enc:α→D)(p:Int×α):D:=.tup [.int p.1,enc p.2]
theorem WM {α:Type}{J o:Nat}{ps cm:List Nat}{a:PC}{ρ:Env}{Q:Out→Prop}(l:List (Int×α))(enc:α→D)(val:α→Cell)(g0:Nat→Cell)
 (nd:∀p q,p∈l→q∈l→p.1=q.1→p=q) (PL:∀p,p∈l→0≤p.1) (he:ρ.o J=.tup [.list [],.map (l.map fun p=>(.int p.1,enc p.2))]) (h0:ρ.o o=fJ g0)
 (step:∀p,p∈l→∀g done,aG T (nf [o] a) ((ρ.put ps (cm.map (nT enc p).tget) [o] [fJ g]).setO J (.tup [.list (done++[nT enc p]),.map (l.map fun p=>(.int p.1,enc p.2))])) (fun y=>∃ρ',y=.next ρ'∧ρ'.o o=.list ((fJ g).l.set p.1.toNat (cA (val p.2)))))
 (last:Q (.next (ρ.put [] [] [o] [fJ (uD l val g0)]))):aT T (.meach J ps cm [o] a) ρ Q:=by
 have kS:fW (.map (l.map fun p=>((D.int p.1,enc p.2):D×D)))=l.map (nT enc):=by
  simp[fW,nT]
 refine .meachR _ he (fun done vo=>∃g:Nat→Cell,vo=[fJ g]∧(∀p,p∈l→nT enc p∈done→g p.1.toNat=val p.2)∧∀i:Nat,(∀p,p∈l→nT enc p∈done→p.1≠i)→g i=g0 i) ⟨g0,by simp[h0],(fun p _ h=>by cases h),fun i _=>rfl⟩ (fun done x rest vo hp ⟨g,hv,lE,fA⟩=>?_) ⟨_,fun done hp vo ⟨g,hv,lE,fA⟩=>?_,last⟩
 ·subst hv;rw[kS] at hp;have hx:x∈l.map (nT enc):=hp.subset (by simp);obtain⟨p,cX,rfl⟩:=List.mem_map.mp hx;refine ub _ (fun y ⟨ρ',e,ho⟩=>⟨ρ',e,fun i=>if i=p.1.toNat then val p.2 else g i,by simp[ho,Tl],fun q hq LG=>?_,fun i hi=>?_⟩) (step p cX g done)
  ·have LH:=PL q hq;have mM:=PL p cX;by_cases h:q.1=p.1
   ·rw[nd q p hq cX h];simp
   ·show(if q.1.toNat=p.1.toNat then val p.2 else g q.1.toNat)=val q.2;rw[if_neg (by omega)];rcases List.mem_append.mp LG with h1|h1
    ·exact lE q hq h1
    ·simp[nT] at h1;exact absurd h1.1 h
  ·have mM:=PL p cX;have cV:=hi p cX (by simp);show(if i=p.1.toNat then val p.2 else g i)=g0 i;rw[if_neg (by omega)];exact fA i fun q hq LG=>hi q hq (by simp[LG])
 ·rw[hv,kS] at*
  congr 1
  refine Tk fun i hi=>?_;unfold uD;cases hf:l.find? (fun p=>decide (p.1=(i:Int))) with
  |some p=>
   have cX:=List.mem_of_find?_eq_some hf;have EA:p.1=(i:Int):=by simpa using List.find?_some hf
   have:=lE p cX (hp.symm.subset (List.mem_map_of_mem cX));simp only;rw[←this,EA];rfl
  |none=>
   refine fA i fun p cX _=>?_;have:=List.find?_eq_none.mp hf p cX;simpa using this
@[simp] theorem aCh (a b:Int):dB (D.int a) (D.int b)=decide (a=b):=by
  show((a==b)&&true)=decide (a=b);rw[Bool.and_true];by_cases h:a=b<;>simp[h]
def y8 (n k:Int):Bool:=decide (dP .and .i64 n k≠0)
def vx (s:Sign)(due:Int):Int:=if due=-1 then 0 else s.day-due
def Sr (f:File)(sign:Int):Bool:=(List.range f.alters.length).any fun k=>decide ((f.alters.getD k default).at_≤sign)
def mK (c:Case):Int:=if c.holder<0 then 0 else c.holder
def pU (c:Case)(s:Sign):List (Int×Int):=[(0,c.file.bill.sum),(1,c.file.bill.parts),(2,c.file.bill.tenor.kind),(3,c.file.bill.rate),(4,s.kind),(5,c.defence),(6,vx s c.due)]
def pV (r:Realm)(c:Case)(s:Sign):List (Int×Bool):=[(7,y8 c.file.bill.flags 1),(8,decide (c.file.bill.payee=-1)),(9,y8 c.file.bill.flags 4),(10,y8 c.file.bill.flags 2),(11,decide (bL r c.file.bill.city≠bL r c.file.bill.pay)),(12,Sr c.file c.sign),(13,y8 s.flags 1),(14,decide (0<vx s c.due))]
def DJ (r:Realm)(c:Case)(s:Sign):List Cell:=
 (pU c s).map (fun p=>⟨true,p.2⟩)++(pV r c s).map (fun p=>fH p.2)++
    [jy c.file 0 c.sign,jy c.file 1 c.sign,jy c.file 2 c.sign,jy c.file 3 (mK c),jy c.file 4 (mK c)]
@[simp] theorem azB (x:Case):iO 19 (dp x)=fh x.file:=_root_.id rfl
@[simp] theorem azz (x:Case):iO 15 (dp x)=eN x.file.bill:=_root_.id rfl
@[simp] theorem azA (x:File):iO 15 (fh x)=eN x.bill:=_root_.id rfl
def qa (c:Case):Bool:=aN c.sign c.file.signs.length&&decide (-1≤c.holder)&&decide (mK c<c.file.signs.length)&&(decide (c.due=-1)||aN c.due 100001)
def dG (r:Realm)(c:Case):List Cell:=if qa c=true∧aN (c.file.signs.getD c.sign.toNat default).day 100001=true then DJ r c (c.file.signs.getD c.sign.toNat default) else[]
theorem abh (r:Realm)(c:Case)(h2:c.file.facts.length≤100000)(h3:c.file.alters.length≤100000):ao T X9 [bm r,dp c] (cells (dG r c)):=by
 refine .of_tree rfl aeX aws ?_;cases hs:aN c.sign c.file.signs.length
 ·have hv:dG r c=[]:=by unfold dG qa;rw[hs];simp
  rw[hv];simp[rA];refine⟨_,m9 _ _,?_⟩;simp[hs];rfl
 by_cases hh:c.holder< -1
 ·have hv:dG r c=[]:=by unfold dG qa;rw[hs];simp;intros;omega
  rw[hv];simp[rA,hh];exact⟨⟨_,m9 _ _⟩,rfl⟩
 by_cases hm:(c.file.signs.length:Int)≤mK c
 ·have hv:dG r c=[]:=by unfold dG qa;rw[hs];simp;intros;omega
  rw[hv];unfold mK at hm;simp[rA,hm];exact⟨⟨_,m9 _ _⟩,rfl⟩
 by_cases hd:c.due≠-1∧aN c.due 100001=false
 ·have hv:dG r c=[]:=by unfold dG qa;rw[hs];simp[hd]
  rw[hv];unfold mK at hm;obtain⟨bj,dk⟩:=hd;simp[rA,hh,hm,bj];refine⟨_,m9 _ _,?_⟩;simp[hs,hh,hm,bj];refine⟨_,m9 _ _,?_⟩;simp[hs,hh,hm,bj,dk];rfl
 have hcb:qa c=true:=by
  unfold qa;rw[hs];simp;refine⟨⟨by omega,by omega⟩,?_⟩;by_cases h:c.due=-1
  ·exact .inl h
  ·right;cases hb:aN c.due 100001
   ·exact absurd ⟨h,hb⟩ hd
   ·rfl
 have hlen:c.sign.toNat<c.file.signs.length:=by simp[aN] at hs;omega
 have ed:0≤c.sign∧c.sign<(c.file.signs.length:Int):=by simpa [aN] using hs
 obtain⟨s,Aa⟩:∃s:Sign,s=c.file.signs[c.sign.toNat]:=⟨_,rfl⟩
 have qF:c.file.signs.getD c.sign.toNat default=s:=by rw[Aa];simp[hlen]
 have hv:dG r c=if aN s.day 100001=true then DJ r c s else[]:=by
  unfold dG;rw[qF,hcb];simp
 rw[hv];unfold mK at hm;by_cases zt:c.due=-1
 case' pos=>
  have Va:(c.due=-1)=True:=eq_true zt;simp[rA,hh,hm,Va];refine⟨_,m9 _ _,?_⟩;simp[hs,hh,hm,Va,hlen,←Aa,ed]
 case' neg=>
  have zp:aN c.due 100001=true:=by
   cases hb:aN c.due 100001
   ·exact absurd ⟨zt,hb⟩ hd
   ·rfl
  simp[rA,hh,hm,zt];refine⟨_,m9 _ _,?_⟩;simp[hs,hh,hm,zt];refine⟨_,m9 _ _,?_⟩;simp[hs,hh,hm,zt,zp,hlen,←Aa,ed]
 all_goals
  refine⟨_,m9 _ _,?_⟩;cases D5:aN s.day 100001
  ·simp[D5];rfl
  simp[D5,jm];refine WM (pU c s) D.int (fun n=>⟨true,n⟩) (fun _=>dh) ?_ ?_ ?_ ?_ (fun p hp g done=>?_) ?_
  ·intro p q hp hq h;simp[pU] at hp hq;rcases hp with rfl|rfl|rfl|rfl|rfl|rfl|rfl<;>rcases hq with rfl|rfl|rfl|rfl|rfl|rfl|rfl<;>first|rfl|(simp at h)
  ·intro p hp;simp[pU] at hp;rcases hp with rfl|rfl|rfl|rfl|rfl|rfl|rfl<;>simp
  ·have KZ:(if c.due=-1 then(0:Int) else IntKind.i64.wrap (s.day-c.due))=vx s c.due:=by
        unfold vx;by_cases h:c.due=-1
        ·simp[h]
        ·have zp:aN c.due 100001=true:=by
          cases hb:aN c.due 100001
          ·exact absurd ⟨h,hb⟩ hd
          ·rfl
         simp[aN] at zp D5;rw[if_neg h,if_neg h];exact cC (by omega)
   simp[pU,jm,hlen,←Aa];rw[←KZ];by_cases h:c.due=-1<;>simp[h]
  ·simp[fJ];rfl
  ·have hr:0≤p.1∧p.1<20:=by
        simp[pU] at hp;rcases hp with rfl|rfl|rfl|rfl|rfl|rfl|rfl<;>simp
   have hk:p.1.toNat<20:=by omega
   simp[atU,Pq,nT,Cr g hk];exact hr
  have anC:∀k (hk:k<c.file.alters.length),ao T Ya (mA c.file.alters[k]::[.ref (dp c)]) (.bool (decide ((c.file.alters.getD k default).at_≤c.sign))):=fun k hk=>by
   refine .of_tree rfl aeY awr ?_;simp[Ri,hk]
  simp;refine⟨_,ac8 c.file.alters _ _ _ anC (by omega),_,lY r _,_,lY r _,?_⟩;have KZ:(if c.due=-1 then(0:Int) else IntKind.i64.wrap (s.day-c.due))=vx s c.due:=by
   unfold vx;by_cases h:c.due=-1
   ·simp[h]
   ·have zp:aN c.due 100001=true:=by
     cases hb:aN c.due 100001
     ·exact absurd ⟨h,hb⟩ hd
     ·rfl
    simp[aN] at zp D5;rw[if_neg h,if_neg h];exact cC (by omega)
  have KY:cells (DJ r c s)=fJ (fun i=>if i=15 then jy c.file 0 c.sign else if i=16 then jy c.file 1 c.sign else if i=17 then jy c.file 2 c.sign else if i=18 then jy c.file 3 (mK c) else if i=19 then jy c.file 4 (mK c) else uD (pV r c s) fH (uD (pU c s) (fun n=>⟨true,n⟩) (fun _=>dh)) i):=by
   rfl
  generalize uD (pU c s) (fun n=>(⟨true,n⟩:Cell)) (fun _=>dh)=g1 at*;refine WM (pV r c s) D.bool fH g1 ?_ ?_ ?_ ?_ (fun p hp g done=>?_) ?_
  ·intro p q hp hq h;simp[pV] at hp hq;rcases hp with rfl|rfl|rfl|rfl|rfl|rfl|rfl|rfl<;>rcases hq with rfl|rfl|rfl|rfl|rfl|rfl|rfl|rfl<;>first|rfl|(simp at h)
  ·intro p hp;simp[pV] at hp;rcases hp with rfl|rfl|rfl|rfl|rfl|rfl|rfl|rfl<;>simp
  ·simp[pV,jm,hlen,←Aa,y8];rw[←KZ];by_cases h:c.due=-1<;>simp[h,Sr]
  ·simp
  ·have hr:0≤p.1∧p.1<20:=by
        simp[pV] at hp;rcases hp with rfl|rfl|rfl|rfl|rfl|rfl|rfl|rfl<;>simp
   have hk:p.1.toNat<20:=by omega
   simp[atV,Pr,nT,Cr g hk];refine⟨_,abi _,?_⟩;simp[Cr g hk];exact hr
  simp;generalize uD (pV r c s) fH g1=g2 at*;have hho:(if c.holder<0 then D.int 0 else D.int c.holder)=D.int (mK c):=by
   unfold mK;split<;>rfl
  rw[hho];refine⟨_,BN _ _ _ (by omega),_,BN _ _ _ (by omega),_,BN _ _ _ (by omega),_,BN _ _ _ (by omega),_,BN _ _ _ (by omega),?_⟩;rw[KY];simp only[afX,auO,afZ,afY];refine Tk fun i hi=>?_;by_cases DN:i=15
  ·subst DN;simp
  by_cases DO:i=16
  ·subst DO;simp
  by_cases DP:i=17
  ·subst DP;simp
  by_cases DQ:i=18
  ·subst DQ;simp
  by_cases DR:i=19
  ·subst DR;simp
  simp[DN,DO,DP,DQ,DR]
end Rm
namespace Rm
open Go Go.Proofs Cx
def AB (n:Nat)(x:Int):Bool:=decide (x<0)||decide ((n:Int)≤x)
def iS (r:Realm)(a q:Int)(l:List Int):Bool:=
 !(decide (a<0)||decide ((r.orders.length:Int)≤a)||decide (q<0)||decide (22≤q)||decide (l.length≠5))&& !((List.range l.length).any fun k=>AB r.orders.length (l.getD k 0))
theorem ajn (x n:Int):ao T MW [.int x,.ref (.int n)] (.bool (decide (x<0)||decide (n≤x))):=by
 refine .of_tree rfl ad9 avx ?_;by_cases h:x<0<;>simp[Qq,h]
theorem Uo (r:Realm)(a q:Int)(l:List Int)(hl:l.length≤100000):ao T Xu [bm r,.int a,.int q,ints l] (.bool (iS r a q l)):=by
 refine .of_tree rfl ad8 avy ?_;by_cases h1:a<0
 ·simp[rz,iS,h1]
 by_cases h2:(r.orders.length:Int)≤a
 ·simp[rz,iS,h1,h2]
 by_cases h3:q<0
 ·simp[rz,iS,h1,h2,h3]
 by_cases h4:22≤q
 ·simp[rz,iS,h1,h2,h3,h4]
 by_cases h5:(l.length:Int)=5
 ·have DT:l.length=5:=by omega
  simp[rz,h1,h2,h3,h4,DT];refine⟨_,ac9 l MW [.ref (.int r.orders.length)] (fun k=>AB r.orders.length (l.getD k 0)) (fun k hk=>by simpa [AB,hk] using ajn l[k] r.orders.length) (by omega),?_⟩;simp only[iS,DT];simp[h1,h2,h3,h4]
 ·have DT:¬l.length=5:=by omega
  simp[rz,iS,h1,h2,h3,h4,DT];intro h;omega
theorem Kp {r:Realm}{a q:Int}{l:List Int}(h:iS r a q l=true):(0≤a∧a<r.orders.length)∧l.length=5∧(∀x,x∈l→0≤x∧x<r.orders.length)∧∀b:Int,0≤b→b<r.orders.length→iS r b q l=true:=by
 unfold iS at h ⊢;rw[Bool.and_eq_true] at h;obtain⟨h1,h2⟩:=h;simp at h1;refine⟨by omega,h1.2,fun x hx=>?_,fun b gP cU=>?_⟩
 ·obtain⟨k,hk,rfl⟩:=List.getElem_of_mem hx;simp[AB] at h2;have:=h2 k hk;simp[hk] at this;omega
 ·rw[h2];simp;omega
def w8 (r:Realm):Prop:=∀o,o∈r.orders→o.choices.length≤100000∧∀ch,ch∈o.choices→0≤ch.by_∧ch.by_<5
def sS (q:Int)(ch:Choice):Bool:=decide (ch.ask=q)&&decide (ch.by_≠0)
def jj (r:Realm)(a:Int):Order:=r.orders.getD a.toNat default
def eT (r:Realm)(a q:Int)(l:List Int):Int×Bool:=
 (match(jj r a).choices.find? (sS q) with|some ch=>l.getD ch.by_.toNat 0|none=>a,match(jj r a).choices.find? (sS q) with|some ch=>ch.whole|none=>false)
theorem Si (r:Realm)(mG:w8 r)(a q:Int)(l:List Int)(hl:l.length≤100000)(hf:iS r a q l=true):
 ao T Xt [bm r,.int a,.int q,ints l] (.tup [.int (eT r a q l).1,.bool (eT r a q l).2])∧0≤(eT r a q l).1∧(eT r a q l).1<r.orders.length:=by
 obtain⟨ha,Ek,hx,_⟩:=Kp hf;have uS:a.toNat<r.orders.length:=by omega
 obtain⟨aX,j7⟩:=mG _ (List.getElem_mem uS);obtain⟨o,ho⟩:∃o,o=r.orders[a.toNat]:=⟨_,rfl⟩
 rw[←ho] at aX j7;have Lr:jj r a=o:=by rw[ho];simp[jj,uS]
 unfold eT;rw[Lr];refine⟨?_,?_⟩
 ·refine .of_tree rfl ad7 avw ?_;simp[Qp];refine⟨_,Uo r a q l hl,?_⟩;simp[hf,uS,←ho,ha];refine aT.scan o.choices.length (fun k=>sS q (o.choices.getD k default)=false) (fun k=>[.int 0,.bool false,.int k]) (fun _=>[]) ?_ (fun k hk hj ax=>?_) (fun k hk hj ax=>?_) (fun hj=>?_)
  ·simp
  ·have hw:=bu hk (by omega);have hn:¬(o.choices[k].ask=q∧¬o.choices[k].by_=0):=by simpa [sS,hk] using ax
   simp[OS,A4,uS,←ho,hk,hw,hn]
  ·have oY:=y4 hk (by simpa [hk] using ax) (fun j bR=>by have:=hj j bR;simpa [show j<o.choices.length by omega] using this);rw[oY];have hc:o.choices[k].ask=q∧¬o.choices[k].by_=0:=by simpa [sS,hk] using ax
   have hb:=j7 _ (List.getElem_mem hk);have D1:o.choices[k].by_.toNat<l.length:=by omega
   simp[OS,A4,uS,←ho,hk,hc,ints,D1];omega
  ·have oY:=DG (l:=o.choices) (p:=sS q) (fun j bR=>by have:=hj j bR;simpa [bR] using this);rw[oY];simp[OS,A4,uS,←ho]
 ·cases oY:o.choices.find? (sS q) with
  |none=>exact ha
  |some ch=>
   have hb:=j7 _ (List.mem_of_find?_eq_some oY);have D1:ch.by_.toNat<l.length:=by omega
   simp[D1];exact hx _ (List.getElem_mem D1)
theorem Og:∀(N:Nat) (l:List Int),l.Nodup→(∀x,x∈l→0≤x∧x<(N:Int))→l.length≤N
 |0,l,hn,h=>by
  cases l with
  |nil=>simp
  |cons a l=>have:=h a (by simp);omega
 |N+1,l,hn,h=>by
  by_cases hm:(N:Int)∈l
  ·have h1:=Og N (l.erase (N:Int)) (hn.erase _) (fun x hx=>by
    have cL:=(hn.mem_erase_iff).mp hx;have:=h x cL.2;have aB:=cL.1;omega)
   rw[List.length_erase_of_mem hm] at h1;omega
  ·have h1:=Og N l hn (fun x hx=>by
    have:=h x hx;have aB:x≠(N:Int):=fun e=>hm (e▸hx);omega)
   omega
def bX (l:List Int):Int:=l.getD (l.length-1) 0
def gV (r:Realm)(q:Int)(l:List Int):Nat→List Int→List Int×Int
 |0,p=>(p,0)
 |n+1,p=>
  if(eT r (bX p) q l).1=bX p then(p,0)
  else if(eT r (bX p) q l).2=false∨(hasB p (eT r (bX p) q l).1=true∧(jj r (eT r (bX p) q l).1).accepts=true) then(p++[(eT r (bX p) q l).1],0)
  else if hasB p (eT r (bX p) q l).1=true then(p++[(eT r (bX p) q l).1],12)
  else gV r q l n (p++[(eT r (bX p) q l).1])
theorem EO (r:Realm)(q:Int)(l:List Int)(n:Nat)(p:List Int):gV r q l (n+1) p=
 if(eT r (bX p) q l).1=bX p then(p,0)
 else if(eT r (bX p) q l).2=false∨(hasB p (eT r (bX p) q l).1=true∧(jj r (eT r (bX p) q l).1).accepts=true) then(p++[(eT r (bX p) q l).1],0)
 else if hasB p (eT r (bX p) q l).1=true then(p++[(eT r (bX p) q l).1],12)
 else gV r q l n (p++[(eT r (bX p) q l).1]):=rfl
def cN (r:Realm)(a q:Int)(l:List Int):List Int×Int:=if iS r a q l=true∧l.getD 0 0=a then gV r q l r.orders.length [a] else([],1)
theorem Sg (r:Realm)(mG:w8 r)(hn:r.orders.length≤100000)(a q:Int)(l:List Int)(hl:l.length≤100000):ao T Xs [bm r,.int a,.int q,ints l] (.tup [ints (cN r a q l).1,.int (cN r a q l).2]):=by
 refine .of_tree rfl ad6 avv ?_;simp[Qo];refine⟨_,Uo r a q l hl,?_⟩;cases hf:iS r a q l
 ·simp[cN,hf];rfl
 obtain⟨ha,Ek,hx,uQ⟩:=Kp hf;have h0:0<l.length:=by omega
 by_cases El:l[0]=a
 ·have hE:cN r a q l=gV r q l r.orders.length [a]:=by unfold cN;rw[if_pos ⟨hf,by simp[h0,El]⟩]
  rw[hE];simp[h0,El,ints];refine aT.forLoop (α:=Nat×List Int) (fun s vr vo=>vr=[.list [],.int 0,.none]∧vo=[ints s.2]∧s.2.Nodup∧(∀x,x∈s.2→0≤x∧x<(r.orders.length:Int))∧s.2≠[]∧s.1+s.2.length=r.orders.length+1∧gV r q l s.1 s.2=gV r q l r.orders.length [a]) (fun s=>s.1) (r.orders.length,[a]) ?_ ?_
  ·simp[ints];exact ha
  ·rintro⟨n,p⟩ vr vo ⟨rfl,rfl,aZ,bx,aB,hlen,sr⟩;simp only at*;have cX:p.length≤r.orders.length:=Og _ p aZ bx;have VP:0<p.length:=List.length_pos_iff.mpr aB;obtain⟨m,rfl⟩:∃m,n=m+1:=⟨n-1,by omega⟩
   have ah:p.length-1<p.length:=by omega
   have jc:bX p=p[p.length-1]:=by simp[bX,ah]
   have su:=bx _ (List.getElem_mem ah);rw[←jc] at su;obtain⟨KC,fC,fD⟩:=Si r mG (bX p) q l hl (uQ _ su.1 su.2);have vb:((p.length:Int)-1).toNat=p.length-1:=by omega
   have vp:IntKind.i64.wrap ((p.length:Int)-1)=(p.length:Int)-1:=cC (by omega);rw[←sr,EO];obtain⟨L,hL⟩:∃L,L=eT r (bX p) q l:=⟨_,rfl⟩
   rw[←hL] at KC fC fD ⊢;obtain⟨to,whole⟩:=L;simp only at KC fC fD;have LW:to.toNat<r.orders.length:=by omega
   have Lr:jj r to=r.orders[to.toNat]:=by simp[jj,LW]
   simp only[Lr];simp[atQ,OR,vp,vb,ah,←jc,ints];refine⟨by omega,_,KC,?_⟩;by_cases h1:to=bX p
   ·simp[h1]
   simp[h1];refine⟨_,tX p to (by omega),by omega,?_⟩;cases whole
   ·simp
   cases h2:hasB p to
   ·have cK:to∉p:=fun hm=>by
     have:hasB p to=true:=by simp[hasB,hm]
     rw[h2] at this;cases this
    simp[h2];refine⟨m,by omega,p++[to],by simp,?_,?_,by simp,by simp;omega,rfl⟩
    ·exact List.nodup_append.mpr ⟨aZ,by simp,fun x hx y hy=>by simp at hy;subst hy;exact fun e=>cK (e▸hx)⟩
    ·intro x hx;rcases List.mem_append.mp hx with h|h
     ·exact bx x h
     ·simp at h;subst h;exact⟨fC,fD⟩
   ·cases h3:r.orders[to.toNat].accepts<;>simp[h2,h3,LW]<;>omega
 ·have hE:cN r a q l=([],1):=by unfold cN;rw[if_neg (by simp[h0,El])]
  rw[hE];simp[h0,El];rfl
end Rm
