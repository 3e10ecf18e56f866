/-
  Shared texts of this claim.
-/
import Derived.Test.YtodhjdbleiakeaaGreatDoorMAP
import Derived.Lib.Mul64
set_option linter.unusedSimpArgs false
set_option linter.unusedVariables false
namespace Rm
open Go Go.Proofs Cx
def eN:List Int→Int
 |[]=>0
 |x::l=>if x=0 then eN l else x
theorem UK:∀{l:List Int},eN l=0↔∀x,x∈l→x=0
 |[]=>by simp[eN]
 |x::l=>by
  simp only[eN,cX,forall_eq_or_imp];by_cases h:x=0
  ·simp[h,UK (l:=l)]
  ·simp[h]
def oU (r:Realm)(i:Nat):Bool:=aN (r.firms.getD i default).city r.cities.length&&aN (r.firms.getD i default).group r.groups.length
def oK (r:Realm)(i:Nat):Bool:=np r (r.cities.getD i default)
def mS (r:Realm)(i:Nat):Bool:=pC (r.orders.getD i default)
def uZ (r:Realm)(i:Nat):Bool:=aN (r.groups.getD i default).grade 10
def sY (r:Realm):Int:=if 20<r.groups.length then 6 else if eu r.groups.length (uZ r) then 0 else 1
def kG (r:Realm):Int:=eN [eK r.currencies 8 (fun _=>true),eK (fc r) 40 (oK r),sY r,eK (fe r) 200 (oU r),eK (eF r) 20 (mS r),uw r,nX r]
theorem aoD (i:Int):ao T RG [.int i] (.bool true):=by
 refine .of_tree rfl ale aDP ?_;simp[V4]
theorem aoE (r:Realm)(h:Small r)(i:Nat)(hi:i<r.cities.length):ao T RH [.int i,.ref (bn r)] (.bool (oK r i)):=by
 refine .of_tree rfl alf aDQ ?_;obtain⟨h1,h2,h3,h4⟩:=h.city _ (de hi);simp[V5,hi,oK];exact aBx r r.cities[i] (by omega) (by omega) (by omega)
theorem aoF (r:Realm)(i:Nat)(hi:i<r.firms.length):ao T RI [.int i,.ref (bn r)] (.bool (oU r i)):=by
 refine .of_tree rfl alg aDR ?_;simp[V6,hi,oU];refine⟨_,fF _ _,?_⟩;simp[hi];cases e1:aN r.firms[i].city r.cities.length<;>simp;exact fF _ _
theorem aoG (r:Realm)(h:Small r)(i:Nat)(hi:i<r.orders.length):ao T RJ [.int i,.ref (bn r)] (.bool (mS r i)):=by
 refine .of_tree rfl alh aDS ?_;obtain⟨h1,h2⟩:=h.order _ (de hi);simp[V7,hi,mS];exact aBB r.orders[i] (by omega) (by omega)
theorem Uy (r:Realm)(h:Small r):ao T adV [bn r] (.int (kG r)):=by
 refine .of_tree rfl ald aDT ?_;have g1:=h.cur;have g2:=h.cities;have g3:=h.firms;have g4:=h.orders;have g5:=h.groups;simp[V3];refine⟨_,aBA r (by omega) (by omega) (by omega),?_⟩;simp;refine⟨_,Mj r.currencies 8 RG [] (fun _=>true) (fun i _=>aoD _) (by omega),?_⟩;unfold kG;generalize e1:eK r.currencies 8 (fun _=>true)=x1;by_cases z1:x1=0
 case neg=>simp[z1,eN]
 simp[z1,eN];refine⟨_,Mj (fc r) 40 RH [.ref (bn r)] (oK r) (fun i hi=>aoE r h i (by simpa [fc] using hi)) (by simp[fc];omega),?_⟩;generalize e2:eK (fc r) 40 (oK r)=x2;by_cases z2:x2=0
 case neg=>simp[z2]
 simp[z2];by_cases z3:20<r.groups.length
 ·have Xp:(20:Int)<r.groups.length:=by omega
  simp[Xp,sY,z3]
 have Xp:¬(20:Int)<r.groups.length:=by omega
 simp[Xp,sY,z3];refine fQ r.groups.length (uZ r) (fun k=>[.int 0,.int k]) (fun _=>[]) ?_ (fun k hk ho=>?_) (fun k hk ho hb=>?_) (fun hj=>?_)
 ·simp
 ·have hw:=bx hk (by omega);simp[uZ,hk] at ho;simp[T7,Eu,hk];refine⟨_,fF _ _,?_⟩;simp[ho,hw]
 ·simp[uZ,hk] at ho;rw[hb];simp[T7,Eu,hk];refine⟨_,fF _ _,?_⟩;simp[ho]
 ·rw[hj];simp[T7,Eu];refine⟨_,Mj (fe r) 200 RI [.ref (bn r)] (oU r) (fun i hi=>aoF r i (by simpa [fe] using hi)) (by simp[fe];omega),?_⟩;generalize e4:eK (fe r) 200 (oU r)=x4;by_cases z4:x4=0
  case neg=>simp[z4]
  simp[z4];refine⟨_,Mj (eF r) 20 RJ [.ref (bn r)] (mS r) (fun i hi=>aoG r h i (by simpa [eF] using hi)) (by simp[eF];omega),?_⟩;generalize e5:eK (eF r) 20 (mS r)=x5;by_cases z5:x5=0
  case neg=>simp[z5]
  simp[z5];refine⟨_,aBD r h,?_⟩;generalize e6:uw r=x6;by_cases z6:x6=0
  case neg=>simp[z6]
  simp[z6];have e7:(if nX r=0 then 0 else nX r)=nX r:=by split<;>simp_all
  rw[e7];exact aBC r h
theorem aqn (l:List ByteArray)(k:Nat):jJ l (fun _=>true) k=gw l k:=by
 unfold jJ;by_cases h:gw l k=0<;>simp[h]
theorem Cc {l:List ByteArray}{g:Nat→Bool}{k:Nat}(h:jJ l g k=0):gw l k=0∧g k=true:=by
 unfold jJ at h;by_cases h1:gw l k=0
 ·simp[h1] at h;exact⟨h1,h⟩
 ·simp[h1] at h
theorem OW {l:List ByteArray}{g:Nat→Bool}{k:Nat}(h:jJ l g k≠0):(gw l k≠0∧jJ l g k=gw l k)∨(gw l k=0∧g k=false∧jJ l g k=1):=by
 unfold jJ at h ⊢;by_cases h1:gw l k=0
 ·simp[h1] at h ⊢;simp[h]
 ·simp[h1]
theorem aA2 (r:Realm)(h:Small r):ao T adH [bn r] (.int (eN [eK r.currencies 8 (fun _=>true),eK (fc r) 40 (oK r)])):=by
 refine .of_tree rfl akZ aDB ?_;have g1:=h.cur;have g2:=h.cities;have g4:=h.orders;simp[VP];unfold eK;by_cases z1:(8:Int)<r.currencies.length
 ·simp[z1,eN]
 simp[z1,eN];refine oc r.currencies.length (jJ r.currencies (fun _=>true)) (fun k=>[.int 0,.int k]) (fun _=>[]) ?_ (fun k hk ho=>?_) (fun k hk ho hb=>?_) (fun hj=>?_)
 ·simp
 ·have hw:=bx hk (by omega);simp[TU,Ei,hk];refine⟨_,DV _ k hk (by omega),?_⟩;simp[(Cc ho).1,hw]
 ·rw[hb];simp[TU,Ei,hk,ho];rw[aqn];exact DV _ k hk (by omega)
 ·rw[hj];simp[TU,Ei];have hlen:(fc r).length=r.cities.length:=by simp[fc]
  rw[hlen];by_cases z2:(40:Int)<r.cities.length
  ·simp[z2]
  simp[z2];have key:∀k (hk:k<r.cities.length),((fc r).take k).length=k∧D.list (List.take k (List.map str (fc r))++[str r.cities[k].name])=strs ((fc r).take (k+1))∧
     ao T Dw [strs ((fc r).take (k+1)),.int k] (.int (gw (fc r) k))∧ao T RE [bn r,fY r.cities[k]] (.bool (oK r k)):=by
   intro k hk;have bz:k<(fc r).length:=by omega
   have hg:(fc r)[k]=r.cities[k].name:=by simp[fc]
   have hs:(fc r).take (k+1)=(fc r).take k++[(fc r)[k]]:=mi bz;have hn:=DV ((fc r).take (k+1)) k (by rw[dW];omega) (by rw[dW];omega);rw[R0 _ _ _ (by omega)] at hn;obtain⟨c1,c2,c3,c4⟩:=h.city _ (de hk);have hc:=aA0 r r.cities[k] (by omega) (by omega) (by omega) (by omega) (by omega) c4;rw[aoM] at hc;exact⟨by rw[dW];omega,by rw[hs,hg];simp[strs],hn,by simpa [oK,hk] using hc⟩
  refine oc r.cities.length (jJ (fc r) (oK r)) (fun k=>[.int 0,.none,.int k]) (fun k=>[strs ((fc r).take k)]) ?_ (fun k hk ho=>?_) (fun k hk ho hb=>?_) (fun hj=>?_)
  ·simp[strs]
  ·have hw:=bx hk (by omega);obtain⟨hl,eA,hn,hc⟩:=key k hk;obtain⟨o1,o2⟩:=Cc ho;rw[o1] at hn;rw[o2] at hc;simp[TV,Ej,hk,hl,eA,aCk];refine⟨by omega,_,hn,?_⟩;simp[hk];refine⟨_,hc,?_⟩;simp[hw]
  ·rw[hb];obtain⟨hl,eA,hn,hc⟩:=key k hk;simp[TV,Ej,hk,hl,eA,ho];refine⟨by omega,_,hn,?_⟩;rcases OW ho with⟨o1,o2⟩|⟨o1,o2,o3⟩
   ·simp[o1,o2]
   ·rw[o2] at hc;simp[o1,o3,hk];refine⟨_,hc,?_⟩;simp
  ·rw[hj];simp[TV,Ej]
theorem aA3 (r:Realm)(h:Small r):ao T adI [bn r] (.int (eN [sY r,eK (fe r) 200 (oU r)])):=by
 refine .of_tree rfl ak0 aDC ?_;have g1:=h.groups;have g2:=h.firms;have g3:=h.cities;have w3:=q8 r.cities.length (by omega);have w1:=q8 r.groups.length (by omega);simp[VQ];by_cases z1:20<r.groups.length
 ·have Xo:(20:Int)<r.groups.length:=by omega
  simp[Xo,sY,z1,eN]
 have Xo:¬(20:Int)<r.groups.length:=by omega
 simp[Xo,sY,z1,eN];refine fQ r.groups.length (uZ r) (fun k=>[.int 0,.int k]) (fun _=>[]) ?_ (fun k hk ho=>?_) (fun k hk ho hb=>?_) (fun hj=>?_)
 ·simp
 ·have hw:=bx hk (by omega);simp[uZ,hk] at ho;have e:wi r.groups[k].grade 0 9=aN r.groups[k].grade 10:=by rw[sD];simp[wi,aN];omega
  simp[TW,Ek,hk];refine⟨_,cL _ _ _,?_⟩;simp[e,ho,hw]
 ·simp[uZ,hk] at ho;have e:wi r.groups[k].grade 0 9=aN r.groups[k].grade 10:=by rw[sD];simp[wi,aN];omega
  rw[hb];simp[TW,Ek,hk];refine⟨_,cL _ _ _,?_⟩;simp[e,ho]
 ·rw[hj];simp[TW,Ek];unfold eK;have hlen:(fe r).length=r.firms.length:=by simp[fe]
  rw[hlen];by_cases z2:(200:Int)<r.firms.length
  ·simp[z2]
  simp[z2];have key:∀k (hk:k<r.firms.length),((fe r).take k).length=k∧D.list (List.take k (List.map str (fe r))++[str r.firms[k].name])=strs ((fe r).take (k+1))∧
     ao T Dw [strs ((fe r).take (k+1)),.int k] (.int (gw (fe r) k))∧oU r k=(wi r.firms[k].city 0 ((r.cities.length:Int)-1)&&wi r.firms[k].group 0 ((r.groups.length:Int)-1)):=by
   intro k hk;have bz:k<(fe r).length:=by omega
   have hg:(fe r)[k]=r.firms[k].name:=by simp[fe]
   have hs:(fe r).take (k+1)=(fe r).take k++[(fe r)[k]]:=mi bz;have hn:=DV ((fe r).take (k+1)) k (by rw[dW];omega) (by rw[dW];omega);rw[R0 _ _ _ (by omega)] at hn;exact⟨by rw[dW];omega,by rw[hs,hg];simp[strs],hn,by simp[oU,hk,mI]⟩
  refine oc r.firms.length (jJ (fe r) (oU r)) (fun k=>[.int 0,.none,.int k]) (fun k=>[strs ((fe r).take k)]) ?_ (fun k hk ho=>?_) (fun k hk ho hb=>?_) (fun hj=>?_)
  ·simp[strs]
  ·have hw:=bx hk (by omega);obtain⟨hl,eA,hn,hc⟩:=key k hk;obtain⟨o1,o2⟩:=Cc ho;rw[o1] at hn;rw[o2] at hc;have hc':=Bool.and_eq_true_iff.1 hc.symm;simp[TX,El,hk,hl,eA];refine⟨by omega,_,hn,?_⟩;simp[hk,w3];refine⟨_,cL _ _ _,?_⟩;simp[hc'.1,hk,w1];refine⟨_,cL _ _ _,?_⟩;simp[hc'.2,hw]
  ·rw[hb];obtain⟨hl,eA,hn,hc⟩:=key k hk;simp[TX,El,hk,hl,eA,ho];refine⟨by omega,_,hn,?_⟩;rcases OW ho with⟨o1,o2⟩|⟨o1,o2,o3⟩
   ·simp[o1,o2]
   ·rw[o2] at hc;simp[o1,o3,hk,w3];refine⟨_,cL _ _ _,?_⟩;cases e1:wi r.firms[k].city 0 ((r.cities.length:Int)-1)
    ·simp
    rw[e1,wX] at hc;simp[hk,w1];refine⟨_,cL _ _ _,?_⟩;simp[←hc]
  ·rw[hj];simp[TX,El]
theorem aA4 (r:Realm)(h:Small r):ao T adJ [bn r] (.int (eK (eF r) 20 (mS r))):=by
 refine .of_tree rfl ak2 aDE ?_;have g2:=h.orders;simp[VS];unfold eK;have hlen:(eF r).length=r.orders.length:=by simp[eF]
 rw[hlen];by_cases z2:(20:Int)<r.orders.length
 ·simp[z2]
 simp[z2];have key:∀k (hk:k<r.orders.length),((eF r).take k).length=k∧D.list (List.take k (List.map str (eF r))++[str r.orders[k].name])=strs ((eF r).take (k+1))∧
  ao T Dw [strs ((eF r).take (k+1)),.int k] (.int (gw (eF r) k))∧ao T RF [iJ r.orders[k]] (.bool (mS r k)):=by
  intro k hk;have bz:k<(eF r).length:=by omega
  have hg:(eF r)[k]=r.orders[k].name:=by simp[eF]
  have hs:(eF r).take (k+1)=(eF r).take k++[(eF r)[k]]:=mi bz;have hn:=DV ((eF r).take (k+1)) k (by rw[dW];omega) (by rw[dW];omega);rw[R0 _ _ _ (by omega)] at hn;obtain⟨c1,c2⟩:=h.order _ (de hk);exact⟨by rw[dW];omega,by rw[hs,hg];simp[strs],hn,by simpa [mS,hk] using aA1 r.orders[k] (by omega) (by omega)⟩
 refine oc r.orders.length (jJ (eF r) (mS r)) (fun k=>[.int 0,.none,.int k]) (fun k=>[strs ((eF r).take k)]) ?_ (fun k hk ho=>?_) (fun k hk ho hb=>?_) (fun hj=>?_)
 ·simp[strs]
 ·have hw:=bx hk (by omega);obtain⟨hl,eA,hn,hc⟩:=key k hk;obtain⟨o1,o2⟩:=Cc ho;rw[o1] at hn;rw[o2] at hc;simp[TY,Em,hk,hl,eA];refine⟨by omega,_,hn,?_⟩;simp[hk];refine⟨_,hc,?_⟩;simp[hw]
 ·rw[hb];obtain⟨hl,eA,hn,hc⟩:=key k hk;simp[TY,Em,hk,hl,eA,ho];refine⟨by omega,_,hn,?_⟩;rcases OW ho with⟨o1,o2⟩|⟨o1,o2,o3⟩
  ·simp[o1,o2]
  ·rw[o2] at hc;simp[o1,o3,hk];refine⟨_,hc,?_⟩;simp
 ·rw[hj];simp[TY,Em]
theorem aAX (r:Realm)(h:Small r):ao T adB [bn r] (.int (kG r)):=by
 refine .of_tree rfl akR aDt ?_
 have e:kG r=eN [eN [eK r.currencies 8 (fun _=>true),eK (fc r) 40 (oK r)],eN [sY r,eK (fe r) 200 (oU r)],eK (eF r) 20 (mS r),uw r,nX r]:=by
  unfold kG;simp only[eN];split<;>(try split)<;>(try split)<;>(try split)<;>simp_all
 rw[e];simp[VH];refine⟨_,aA2 r h,?_⟩;have h1:=aA3 r h;generalize eN [eK r.currencies 8 (fun _=>true),eK (fc r) 40 (oK r)]=x1 at*;generalize eN [sY r,eK (fe r) 200 (oU r)]=x2 at*;have h2:=aA4 r h;generalize eK (eF r) 20 (mS r)=x3 at*;have h3:=aA6 r h;generalize uw r=x4 at*;have h4:=aA5 r h;generalize nX r=x5 at*;by_cases z1:x1=0
 case neg=>simp[z1,eN]
 simp[z1,eN];refine⟨_,h1,?_⟩;by_cases z2:x2=0
 case neg=>simp[z2]
 simp[z2];refine⟨_,h2,?_⟩;by_cases z3:x3=0
 case neg=>simp[z3]
 simp[z3];refine⟨_,h3,?_⟩;by_cases z4:x4=0
 case neg=>simp[z4]
 simp[z4];have e7:(if x5=0 then 0 else x5)=x5:=by split<;>simp_all
 rw[e7];exact h4
end Rm
namespace Rm
open Go Go.Proofs Cx
def jB:Nat→Tm→Int→Int
 |0,_,_=>-1
 |L+1,t,n=>t.args.foldl (fun m a=>if 0≤m then jB L a m else m) (n-1)
theorem size_le:∀(L:Nat) (t:Tm) (n:Int),0≤n→-1≤jB L t n∧jB L t n≤n
 |0,t,n,h=>by simp[jB];omega
 |L+1,t,n,h=>by
  have key:∀(l:List Tm) (m:Int),-1≤m→m≤n→-1≤l.foldl (fun m a=>if 0≤m then jB L a m else m) m∧l.foldl (fun m a=>if 0≤m then jB L a m else m) m≤n:=by
   intro l
   induction l with
   |nil=>intro m h1 h2;exact⟨h1,h2⟩
   |cons a l ih=>
    intro m h1 h2;simp only[Fw];split
    ·rename_i hm;have:=size_le L a m hm;exact ih _ this.1 (by omega)
    ·exact ih _ h1 h2
  exact key _ _ (by omega) (by omega)
theorem ahT (L:Nat):∀(l:List Tm) (m:Int),m<0→l.foldl (fun m a=>if 0≤m then jB L a m else m) m=m
 |[],m,h=>rfl
 |a::l,m,h=>by simp only[Fw];rw[if_neg (by omega)];exact ahT L l m h
theorem asW {α β:Type}(f:β→α→β)(b:β){l:List α}{k:Nat}(h:k<l.length):(l.take (k+1)).foldl f b=f ((l.take k).foldl f b) l[k]:=by
 rw[mi h,Fv];rfl
theorem asV {α β:Type}(f:β→α→β)(b:β)(l:List α)(k:Nat):l.foldl f b=(l.drop k).foldl f ((l.take k).foldl f b):=by
 rw[←Fv,M9]
theorem _root_.Cx.Tm.OK.len {t:Tm}(h:t.OK):t.args.length≤9223372036854775807:=by cases h with|mk o n xs h1 h2 h3 h4=>exact h3
theorem _root_.Cx.Tm.OK.arg {t:Tm}(h:t.OK){a:Tm}(ha:a∈t.args):a.OK:=by cases h with|mk o n xs h1 h2 h3 h4=>exact h4 a ha
theorem agV:∀(L:Nat) (t:Tm) (n:Int),t.OK→0≤n→n≤1000→L≤1000→ao T adR [dE t,.int n,.int L] (.int (jB L t n))
 |0,t,n,ht,h0,h1,hL=>by
  refine .of_tree rfl Yk ah9 ?_;simp[MM,jB]
 |L+1,t,n,ht,h0,h1,hL=>by
  refine .of_tree rfl Yk ah9 ?_;have qE:IntKind.i64.wrap (n-1)=n-1:=bU (by omega);have hl:=ht.len;have kK:¬((L:Int)+1<1):=by omega
  simp[MM,qE,kK]
  let g:Nat→Int:=fun k=>(t.args.take k).foldl (fun m a=>if 0≤m then jB L a m else m) (n-1)
  have gb:∀k,-1≤g k∧g k≤1000:=by
   intro k;have:g k=jB (L+1) (.mk 0 0 (t.args.take k)) n:=rfl;have:=size_le (L+1) (.mk 0 0 (t.args.take k)) n h0;omega
  refine .scan t.args.length (fun k=>0≤g k) (fun k=>[.int (g k),.int k]) (fun _=>[]) ?_ (fun k hk hj ho=>?_) (fun k hk hj ho=>?_) (fun hj=>?_)
  ·simp[g,qE]
  ·have hw:IntKind.i64.wrap ((k:Int)+1)=(k:Int)+1:=bU (by omega);have Io:IntKind.i64.wrap (L:Int)=(L:Int):=bU (by omega);have hg:g (k+1)=jB L t.args[k] (g k):=by
    show(t.args.take (k+1)).foldl _ _=_;rw[asW _ _ hk];show(if 0≤g k then _ else _)=_;rw[if_pos ho]
   rw[hg];have ia:=agV L t.args[k] (g k) (ht.arg (de hk)) ho (gb k).2 (by omega);generalize g k=m at*;simp[T4,Er,hk,ho,Io];refine⟨_,ia,?_⟩;simp[hw]
  ·have hf:jB (L+1) t n=g k:=by
    show t.args.foldl _ _=_;rw[asV _ _ _ k];exact ahT L _ _ (by show g k<0;omega)
   rw[hf];generalize g k=m at*;simp[T4,Er,hk,ho]
  ·have hf:jB (L+1) t n=g t.args.length:=by
    show t.args.foldl _ _=(t.args.take t.args.length).foldl _ _;rw[List.take_length]
   rw[hf];generalize g t.args.length=m at*;simp[T4,Er]
theorem agU (t:Tm)(ht:t.OK):ao T adP [dE t] (.bool (decide (0≤jB 20 t 100))):=by
 refine .of_tree rfl ak8 aDK ?_;simp[VY];refine⟨_,agV 20 t 100 ht (by omega) (by omega) (by omega),?_⟩;simp
def qn (o:Order):Bool:=(decide (o.rules.length≤60)&&decide (o.choices.length≤60))&&eu o.rules.length (fun k=>decide (0≤jB 20 (o.rules.getD k default).term 100))
theorem agW (o:Order)(ho:o.OK):ao T adS [iJ o] (.bool (qn o)):=by
 refine .of_tree rfl ala aDM ?_;simp[V0];by_cases h1:(o.rules.length:Int)≤60
 case neg=>
  have cE:(60:Int)<o.rules.length:=by omega
  have hf:qn o=false:=by
   have:decide (o.rules.length≤60)=false:=decide_eq_false (by omega);simp only[qn,this,q9]
  simp[cE,hf]
 by_cases h2:(o.choices.length:Int)≤60
 case neg=>
  have cE:(60:Int)<o.choices.length:=by omega
  have hf:qn o=false:=by
   have:decide (o.choices.length≤60)=false:=decide_eq_false (by omega);simp only[qn,this,q9,wV]
  simp[cE,hf]
 have cE:¬(60:Int)<o.rules.length:=by omega
 have kI:¬(60:Int)<o.choices.length:=by omega
 have hf:qn o=eu o.rules.length (fun k=>decide (0≤jB 20 (o.rules.getD k default).term 100)):=by
  have e1:decide (o.rules.length≤60)=true:=decide_eq_true (by omega);have e2:decide (o.choices.length≤60)=true:=decide_eq_true (by omega);simp only[qn,e1,e2,wX]
 rw[hf];simp[cE,kI];have hO:=ho.2.2;refine fQ o.rules.length (fun k=>decide (0≤jB 20 (o.rules.getD k default).term 100)) (fun k=>[.bool false,.int k]) (fun _=>[]) ?_ (fun k hk ho=>?_) (fun k hk ho hb=>?_) (fun hj=>?_)
 ·simp
 ·have hw:=bx hk (by omega);simp[hk] at ho;simp[T5,Es,hk];refine⟨_,agU _ (hO _ (de hk)).2,?_⟩;simp[ho,hw]
 ·simp only[aT] at hb;rw[hb];simp[hk] at ho;simp[T5,Es,hk];refine⟨_,agU _ (hO _ (de hk)).2,?_⟩;simp[ho]
 ·simp only[aT] at hj;rw[hj];simp[T5,Es]
def B8 (f:File):Bool:=decide ((f.signs.length:Int)≤50)&&decide ((f.alters.length:Int)≤10)&&decide ((f.acts.length:Int)≤110)&&decide ((f.facts.length:Int)≤220)
theorem aBb (f:File):ao T adN [cI f] (.bool (B8 f)):=by
 refine .of_tree rfl ak6 aDI ?_;simp[VW,B8];by_cases h1:(f.signs.length:Int)≤50<;>by_cases h2:(f.alters.length:Int)≤10<;>by_cases h3:(f.acts.length:Int)≤110<;>by_cases h4:(f.facts.length:Int)≤220<;>
  simp[h1,h2,h3,h4]
end Rm
namespace Rm
open Go Go.Proofs Cx
def B6 (r:Realm)(k:Nat):Bool:=decide (((r.cities.getD k default).feasts.length:Int)≤70)&&decide (((r.cities.getD k default).shut.length:Int)≤210)&&decide (((r.cities.getD k default).rest.length:Int)≤8)
def B7 (r:Realm)(k:Nat):Bool:=decide (((r.orders.getD k default).choices.length:Int)≤40)&&decide (((r.orders.getD k default).rules.length:Int)≤40)
def Hi (r:Realm):Bool:=decide ((r.currencies.length:Int)<50)&&decide ((r.cities.length:Int)<50)&&decide ((r.groups.length:Int)<50)&&decide ((r.firms.length:Int)<210)&&decide ((r.orders.length:Int)<50)&&decide ((r.usances.length:Int)<110)&&decide ((r.rates.length:Int)<110)&&decide ((r.halts.length:Int)<50)
def oT (r:Realm):Bool:=eu (min r.cities.length 50) (B6 r)&&eu (min r.orders.length 50) (B7 r)&&Hi r
theorem aAY (r:Realm)(hr:r.OK):ao T adC [bn r] (.bool (oT r)):=by
 refine .of_tree rfl akS aDu ?_;simp[VI];refine fQ (min r.cities.length 50) (B6 r) (fun k=>[.bool false,.int k]) (fun _=>[]) ?_ (fun k hk ho=>?_) (fun k hk ho hb=>?_) (fun hj=>?_)
 ·simp
 ·have bF:k<r.cities.length:=by omega
  have ct:k<50:=by omega
  have hw:=bx ct (by omega);simp[B6,bF] at ho;obtain⟨⟨a1,a2⟩,a3⟩:=ho;have b1:¬(70:Int)<r.cities[k].feasts.length:=by omega
  have b2:¬(210:Int)<r.cities[k].shut.length:=by omega
  have b3:¬(8:Int)<r.cities[k].rest.length:=by omega
  simp[Ec,wE,bF,ct,hw,b1,b2,b3];omega
 ·have bF:k<r.cities.length:=by omega
  have ct:k<50:=by omega
  have hf:oT r=false:=by simp only[oT,hb,q9]
  rw[hf];simp[B6,bF] at ho;by_cases b1:(70:Int)<r.cities[k].feasts.length
  ·simp[Ec,wE,bF,ct,b1];omega
  by_cases b2:(210:Int)<r.cities[k].shut.length
  ·simp[Ec,wE,bF,ct,b1,b2];omega
  have b3:(8:Int)<r.cities[k].rest.length:=by have:=ho (by omega) (by omega);omega
  simp[Ec,wE,bF,ct,b1,b2,b3];omega
 ·have hn:¬((min r.cities.length 50:Nat):Int)<r.cities.length∨¬((min r.cities.length 50:Nat):Int)<50:=by omega
  simp[Ec,wE];rw[if_neg (by omega)];refine fQ (min r.orders.length 50) (B7 r) (fun k=>[.bool false,.int k]) (fun _=>[]) ?_ (fun k hk ho=>?_) (fun k hk ho hb=>?_) (fun CK=>?_)
  ·simp
  ·have bF:k<r.orders.length:=by omega
   have ct:k<50:=by omega
   have hw:=bx ct (by omega);simp[B7,bF] at ho;obtain⟨a1,a2⟩:=ho;have b1:¬(40:Int)<r.orders[k].choices.length:=by omega
   have b2:¬(40:Int)<r.orders[k].rules.length:=by omega
   simp[L1,zo,bF,ct,hw,b1,b2];omega
  ·have bF:k<r.orders.length:=by omega
   have ct:k<50:=by omega
   have hf:oT r=false:=by simp only[oT,hb,q9,wV]
   rw[hf];simp[B7,bF] at ho;by_cases b1:(40:Int)<r.orders[k].choices.length
   ·simp[L1,zo,bF,ct,b1];omega
   have b2:(40:Int)<r.orders[k].rules.length:=by have:=ho (by omega);omega
   simp[L1,zo,bF,ct,b1,b2];omega
  ·have hf:oT r=Hi r:=by simp only[oT,hj,CK,wX]
   rw[hf];simp[L1,zo];rw[if_neg (by omega)];unfold Hi;by_cases c1:(r.currencies.length:Int)<50<;>simp[c1];by_cases c2:(r.cities.length:Int)<50<;>simp[c2];by_cases c3:(r.groups.length:Int)<50<;>simp[c3];by_cases c4:(r.firms.length:Int)<210<;>simp[c4];by_cases c5:(r.orders.length:Int)<50<;>simp[c5];by_cases c6:(r.usances.length:Int)<110<;>simp[c6];by_cases c7:(r.rates.length:Int)<110<;>simp[c7]
theorem OQ {r:Realm}(hr:r.OK)(h:oT r=true):Small r:=by
 simp only[oT,Hi,ar,decide_eq_true_eq,xg] at h;obtain⟨⟨h1,h2⟩,⟨⟨⟨⟨⟨⟨⟨c1,c2⟩,c3⟩,c4⟩,c5⟩,c6⟩,c7⟩,c8⟩⟩:=h;obtain⟨k1,⟨k2,k2'⟩,⟨k3,k3'⟩,⟨k4,k4'⟩,⟨k5,k5'⟩,⟨k6,k6'⟩,⟨k7,k7'⟩,⟨k8,k8'⟩⟩:=hr;refine⟨by omega,by omega,by omega,by omega,by omega,by omega,by omega,by omega,fun c hc=>?_,fun o ho=>?_,fun x hx=>?_⟩
 ·obtain⟨k,hk,rfl⟩:=nf hc;have:=h1 k (by omega);simp[B6,hk] at this;have:=k2' _ hc;exact⟨by omega,by omega,by omega,fun y hy=>this.2.2.2.1.2 y hy⟩
 ·obtain⟨k,hk,rfl⟩:=nf ho;have:=h2 k (by omega);simp[B7,hk] at this;omega
 ·have:=k7' x hx;exact⟨this.2.2.1,this.2.2.2.1⟩
def rB (r:Realm)(f:File):Bool:=(oT r&&B8 f)&&eu r.orders.length (fun k=>qn (r.orders.getD k default))
theorem aBc (r:Realm)(f:File)(hr:r.OK):ao T adT [bn r,cI f] (.bool (rB r f)):=by
 refine .of_tree rfl alb aDN ?_;simp[V1];refine⟨_,aAY r hr,?_⟩;cases e1:oT r
 ·simp[rB,e1]
 simp;refine⟨_,aBb f,?_⟩;cases e2:B8 f
 ·simp[rB,e1,e2]
 have hs:=OQ hr e1;have ho:=hs.orders;have hf:rB r f=eu r.orders.length (fun k=>qn (r.orders.getD k default)):=by simp only[rB,e1,e2,wX]
 rw[hf];simp;have hO:=hr.2.2.2.2.1.2;refine fQ r.orders.length (fun k=>qn (r.orders.getD k default)) (fun k=>[.bool false,.int k]) (fun _=>[]) ?_ (fun k hk ho=>?_) (fun k hk ho hb=>?_) (fun hj=>?_)
 ·simp
 ·have hw:=bx hk (by omega);simp[hk] at ho;simp[T6,Et,hk];refine⟨_,agW _ (hO _ (de hk)),?_⟩;simp[ho,hw]
 ·simp only[aT] at hb;rw[hb];simp[hk] at ho;simp[T6,Et,hk];refine⟨_,agW _ (hO _ (de hk)),?_⟩;simp[ho]
 ·simp only[aT] at hj;rw[hj];simp[T6,Et]
def xM (r:Realm)(f:File):Bool:=rB r f&&decide (kG r=0)
def oO (n:Int):Int:=min (max n (-1099511627776)) 1099511627776
theorem MD (n:Int):ao T aew [.int n] (.int (oO n)):=by
 refine .of_tree rfl alW aEE ?_;simp[WN,oO];by_cases h1:-1099511627776>n
 ·have:¬(1099511627776:Int)< -1099511627776:=by omega
  simp[h1];omega
 ·by_cases h2:(1099511627776:Int)<n
  ·simp[h1,h2];omega
  ·simp[h1,h2];omega
def l8 (v:Int):Int×Bool:=if v<0∨19<v then(0,false) else if v<7 then(0,true) else(1,true)
theorem ah2 (v:Int):ao T RS [.int v] (.tup [.int (l8 v).1,.bool (l8 v).2]):=by
 refine .of_tree rfl Yr aEA ?_;simp[WJ,l8];by_cases h1:v<0
 ·simp[h1]
 by_cases h2:19<v
 ·simp[h1,h2]
 by_cases h3:v<7
 ·simp[h1,h2,h3]
 ·simp[h1,h2,h3]
def Dn (t:Tm):Int×Int:=
 if 0<t.args.length then(0,2) else if t.op=0 then(if oO t.n≠t.n then(0,3) else(0,0)) else if t.op=1 then(if t.n<0∨1<t.n then(0,3) else(1,0)) else if(l8 t.n).2=false then(0,10) else((l8 t.n).1,0)
theorem aCu (t:Tm):ao T RV [dE t] (.tup [.int (Dn t).1,.int (Dn t).2]):=by
 refine .of_tree rfl Yu aEF ?_;simp[WO,Dn];by_cases h0:0<t.args.length
 ·have fI:(0:Int)<t.args.length:=by omega
  simp[h0,fI]
 simp[h0];by_cases h1:t.op=0
 ·simp[h1];refine⟨_,MD _,?_⟩;by_cases h2:oO t.n=t.n<;>simp[h2]
 by_cases h2:t.op=1
 ·simp[h1,h2];by_cases h3:t.n<0<;>by_cases h4:1<t.n<;>simp[h3,h4]
 simp[h1,h2];refine⟨_,ah2 _,?_⟩;cases h3:(l8 t.n).2<;>simp[h3]
def eO (op:Int):List Int×Int:=
 if op=3 then([1],1) else if op=4∨op=5 then([1,1],1) else if op=6 then([1,-1,-1],-1) else if op=7 then([0,0],1) else if op=8 then([-1,-1],1) else([0,0],0)
def B3 (s:List Int×Int):D:=.agg [ints s.1,.int s.2]
@[simp] theorem aHj (s:List Int×Int):(B3 s).cells=[ints s.1,.int s.2]:=_root_.id rfl
@[simp] theorem aHh (s:List Int×Int):(B3 s).c 0=ints s.1:=_root_.id rfl
@[simp] theorem aHi (s:List Int×Int):(B3 s).c 1=.int s.2:=_root_.id rfl
@[simp] theorem aKO (s:List Int×Int):D.agg [ints s.1,.int s.2]=B3 s:=_root_.id rfl
@[simp] theorem aLL (x y:Int):uk (.int x) 0 (.int y)=.int y:=_root_.id rfl
theorem aCw (op:Int):ao T RY [.int op] (B3 (eO op)):=by
 refine .of_tree rfl Yx aEJ ?_;simp[WS,eO];by_cases h3:op=3
 ·simp[h3];rfl
 by_cases h4:op=4
 ·simp[h4];rfl
 by_cases h5:op=5
 ·simp[h5];rfl
 by_cases h6:op=6
 ·simp[h6];rfl
 by_cases h7:op=7
 ·simp[h7];rfl
 by_cases h8:op=8
 ·simp[h8];rfl
 simp[h3,h4,h5,h6,h7,h8];rfl
end Rm
namespace Rm
open Go Go.Proofs Cx
def fB (f:Tm→Int):List Tm→Int→Int
 |[],n=>n
 |a::l,n=>if 60<n+f a then n+f a else fB f l (n+f a)
def cJ:Nat→Tm→Int
 |0,_=>61
 |L+1,t=>fB (cJ L) t.args 1
def dG (f:Tm→Int)(l:List Tm):Int:=(l.map f).sum
theorem IF {f:Tm→Int}{l:List Tm}{k:Nat}(h:k<l.length):dG f (l.take (k+1))=dG f (l.take k)+f l[k]:=by
 unfold dG;rw[zJ f h,List.sum_append];simp
theorem acF {f:Tm→Int}:∀{l:List Tm} {n:Int} {k:Nat},(hk:k<l.length)→(∀j,j<k→n+dG f (l.take (j+1))≤60)→60<n+dG f (l.take (k+1))→fB f l n=n+dG f (l.take (k+1))
 |a::l,n,0,hk,_,h=>by
  simp[dG] at h ⊢;unfold fB;rw[if_pos (by omega)]
 |a::l,n,k+1,hk,hj,h=>by
  have h0:=hj 0 (by omega);simp[dG] at h0;unfold fB;rw[if_neg (by omega)];have e:∀j,n+dG f ((a::l).take (j+1+1))=n+f a+dG f (l.take (j+1)):=by intro j;simp[dG];omega
  rw[acF (l:=l) (k:=k) (by simpa using hk) (fun j HW=>by have:=hj (j+1) (by omega);rw[e] at this;exact this) (by rw[←e];exact h),e]
theorem acH {f:Tm→Int}:∀{l:List Tm} {n:Int},(∀j,j<l.length→n+dG f (l.take (j+1))≤60)→fB f l n=n+dG f l
 |[],n,_=>by simp[fB,dG]
 |a::l,n,hj=>by
  have h0:=hj 0 (by simp);simp[dG] at h0;unfold fB;rw[if_neg (by omega)];have e:∀j,n+dG f ((a::l).take (j+1+1))=n+f a+dG f (l.take (j+1)):=by intro j;simp[dG];omega
  rw[acH (l:=l) (fun j fL=>by have:=hj (j+1) (by simpa using fL);rw[e] at this;exact this)];simp[dG];omega
theorem acG {f:Tm→Int}(hf:∀a,1≤f a):∀{l:List Tm} {n:Int},n≤fB f l n
 |[],n=>by simp[fB]
 |a::l,n=>by
  unfold fB;have:=hf a;split
  ·omega
  ·have:=acG hf (l:=l) (n:=n+f a);omega
theorem vW:∀(L:Nat) (t:Tm),1≤cJ L t
 |0,t=>by simp[cJ]
 |L+1,t=>acG (vW L)
theorem acI {f:Tm→Int}{B:Int}(hf:∀a,f a≤B)(hB:0≤B):∀{l:List Tm} {n:Int},n≤60→fB f l n≤60+B
 |[],n,h=>by simp[fB];omega
 |a::l,n,h=>by
  unfold fB;have:=hf a;split
  ·omega
  ·exact acI hf hB (by omega)
theorem acK:∀(L:Nat) (t:Tm),cJ L t≤61+60*L
 |0,t=>by simp[cJ]
 |L+1,t=>by
  have:=acI (f:=cJ L) (fun a=>acK L a) (by omega) (l:=t.args) (n:=1) (by omega);show fB _ _ _≤_;omega
theorem acJ {f:Tm→Int}(hf:∀a,1≤f a):∀{l:List Tm} {n:Int},fB f l n≤60→(n:Int)+l.length≤60∧∀a,a∈l→f a≤60-n
 |[],n,h=>by simp[fB] at h ⊢;exact h
 |a::l,n,h=>by
  unfold fB at h;have:=hf a;split at h
  ·omega
  ·obtain⟨h1,h2⟩:=acJ hf h;refine⟨by simp;omega,fun b hb=>?_⟩;rcases cX.1 hb with rfl|hb
   ·omega
   ·have:=h2 b hb;omega
theorem Ru {L:Nat}{t:Tm}(h:cJ (L+1) t≤60):t.args.length≤59∧∀a,a∈t.args→cJ L a≤60:=by
 obtain⟨h1,h2⟩:=acJ (vW L) h;exact⟨by omega,fun a ha=>by have:=h2 a ha;omega⟩
theorem UW:∀(L:Nat) (t:Tm) (lv:Int),t.OK→L≤8→lv=9-(L:Int)→ao T RX [dE t,.int lv] (.int (cJ L t))
 |0,t,lv,ht,hL,PG=>by
  refine .of_tree rfl Nt aib ?_;subst PG;simp[MQ,cJ]
 |L+1,t,lv,ht,hL,PG=>by
  refine .of_tree rfl Nt aib ?_;have hl:=ht.len;have h8:¬(8<lv):=by omega
  have Io:IntKind.i64.wrap (lv+1)=lv+1:=bU (by omega);simp[MQ,h8];refine .scan t.args.length (fun k=>1+dG (cJ L) (t.args.take (k+1))≤60) (fun k=>[.int (1+dG (cJ L) (t.args.take k)),.int k]) (fun _=>[]) ?_ (fun k hk hj ho=>?_) (fun k hk hj ho=>?_) (fun hj=>?_)
  ·simp[dG]
  all_goals try rw[IF hk] at ho
  ·have hw:IntKind.i64.wrap ((k:Int)+1)=(k:Int)+1:=bU (by omega);have ia:=UW L t.args[k] (lv+1) (ht.arg (de hk)) (by omega) (by omega);rw[IF hk];have hs:0≤dG (cJ L) (t.args.take k):=by
    unfold dG;have:∀(l:List Tm),0≤(l.map (cJ L)).sum:=by
     intro l
     induction l with
     |nil=>simp
     |cons a l ih=>have:=vW L a;simp;omega
    exact this _
   have jm:=vW L t.args[k];generalize dG (cJ L) (t.args.take k)=m at*;generalize cJ L t.args[k]=v at*;have rN:IntKind.i64.wrap (1+m+v)=1+m+v:=bU (by omega);have dP:¬60<1+m+v:=by omega
   simp[Uw,ES,hk,Io];refine⟨_,ia,?_⟩;simp[rN,dP,hw];omega
  ·have ia:=UW L t.args[k] (lv+1) (ht.arg (de hk)) (by omega) (by omega);have hf:cJ (L+1) t=1+dG (cJ L) (t.args.take (k+1)):=acF hk hj (by rw[IF hk];omega);rw[hf,IF hk];have hs:0≤dG (cJ L) (t.args.take k)∧1+dG (cJ L) (t.args.take k)≤60:=by
    constructor
    ·unfold dG;have:∀(l:List Tm),0≤(l.map (cJ L)).sum:=by
       intro l
       induction l with
       |nil=>simp
       |cons a l ih=>have:=vW L a;simp;omega
     exact this _
    ·cases k with
     |zero=>simp[dG]
     |succ k=>exact hj k (by omega)
   have jm:=vW L t.args[k];have dx:=acK L t.args[k];generalize dG (cJ L) (t.args.take k)=m at*;generalize cJ L t.args[k]=v at*;have rN:IntKind.i64.wrap (1+m+v)=1+m+v:=bU (by omega);have dP:60<1+m+v:=by omega
   simp[Uw,ES,hk,Io];refine⟨_,ia,?_⟩;simp[rN,dP];omega
  ·have hf:cJ (L+1) t=1+dG (cJ L) t.args:=acH hj;rw[hf];simp[Uw,ES]
def mM (ws ts:List Int):Nat→Int
 |0=>-1
 |k+1=>if ws.getD k 0=-1∧mM ws ts k=-1 then ts.getD k 0 else mM ws ts k
def nJ (ws ts:List Int)(k:Nat):Bool:=if ws.getD k 0=-1 then decide (mM ws ts k=-1)||decide (ts.getD k 0=mM ws ts k) else decide (ts.getD k 0=ws.getD k 0)
def vY (t:Tm)(ks:List Int):Int×Int:=
 if t.op<0∨13<t.op then(0,1) else if t.op=0∨t.op=1∨t.op=2 then Dn t else
 if ks.length≠(eO t.op).1.length∨t.n≠0 then(0,2) else
 if eu (eO t.op).1.length (nJ (eO t.op).1 ks)=false then(0,11) else if(eO t.op).2=-1 then(mM (eO t.op).1 ks (eO t.op).1.length,0) else((eO t.op).2,0)
def bT:Nat→Tm→Int×Int
 |0,_=>(0,0)
 |L+1,t=>if eU t.args.length (fun k=>(bT L (t.args.getD k default)).2)≠0 then(0,eU t.args.length (fun k=>(bT L (t.args.getD k default)).2)) else vY t (t.args.map fun a=>(bT L a).1)
theorem Oo (L:Nat)(t:Tm):bT (L+1) t=if eU t.args.length (fun k=>(bT L (t.args.getD k default)).2)≠0 then(0,eU t.args.length (fun k=>(bT L (t.args.getD k default)).2)) else vY t (t.args.map fun a=>(bT L a).1):=rfl
theorem UM {α:Type}(A:List α)(z:α){k n:Nat}(hA:A.length=n)(hk:k<n):(A.take k++List.replicate (n-k) z).set k A[k]=A.take (k+1)++List.replicate (n-(k+1)) z:=by
 have h1:(A.take k).length=k:=by rw[dW];omega
 rw[List.set_append_right _ _ (by omega),h1,Nb];have:n-k=(n-(k+1))+1:=by omega
 rw[this,List.replicate_succ,List.set_cons_zero,mi (by omega),m9];rfl
theorem aCc (op:Int):(eO op).1.length≤3:=by
 unfold eO;repeat' split
 all_goals simp
theorem UU:∀(L:Nat) (t:Tm),t.OK→cJ L t≤60→ao T RT [dE t] (.tup [.int (bT L t).1,.int (bT L t).2])
 |0,t,ht,hm=>by simp[cJ] at hm
 |L+1,t,ht,hm=>by
  refine .of_tree rfl Ys aEC ?_;obtain⟨hl,hp⟩:=Ru hm;simp[WL];refine⟨by omega,?_⟩;refine oc t.args.length (fun k=>(bT L (t.args.getD k default)).2) (fun k=>[.int 0,.int 0,.int k]) (fun k=>[ints ((t.args.map fun a=>(bT L a).1).take k++List.replicate (t.args.length-k) 0)]) ?_ (fun k hk ho=>?_) (fun k hk ho hb=>?_) (fun hj=>?_)
  ·simp[ints]
  ·have hw:=bx hk (by omega);have cU:=de hk;have ia:=UU L t.args[k] (ht.arg cU) (hp _ cU);have hs:=UM (t.args.map fun a=>(bT L a).1) 0 (n:=t.args.length) (by simp) hk;rw[←hs];have hlen:((t.args.map fun a=>(bT L a).1).take k++List.replicate (t.args.length-k) (0:Int)).length=t.args.length:=by simp;omega
   have hgk:(t.args.map fun a=>(bT L a).1)[k]'(by simpa using hk)=(bT L t.args[k]).1:=by simp
   rw[hgk];generalize (t.args.map fun a=>(bT L a).1).take k++List.replicate (t.args.length-k) (0:Int)=A at*;simp[hk] at ho;rw[ho] at ia;generalize (bT L t.args[k]).1=kd at*;simp[Uu,EP,hk];refine⟨_,ia,?_⟩;simp[hlen,hk,hw,ints]
  ·have cU:=de hk;have ia:=UU L t.args[k] (ht.arg cU) (hp _ cU);have hf:bT (L+1) t=(0,(bT L (t.args.getD k default)).2):=by
    rw[Oo,hb,if_pos ho]
   rw[hf];simp[hk] at ho ⊢;simp[Uu,EP,hk];refine⟨_,ia,?_⟩;simp[ho]
  ·have hf:bT (L+1) t=vY t (t.args.map fun a=>(bT L a).1):=by
    rw[Oo,hj];simp
   rw[hf]
   have e0:(t.args.map fun a=>(bT L a).1).take t.args.length++List.replicate (t.args.length-t.args.length) 0=t.args.map fun a=>(bT L a).1:=by
    rw[Nb,Af (by simp)];simp
   rw[e0];have hkl:(t.args.map fun a=>(bT L a).1).length=t.args.length:=by simp
   generalize (t.args.map fun a=>(bT L a).1)=ks at*;simp[Uu,EP];unfold vY;by_cases h1:t.op<0
   ·simp[h1]
   by_cases h2:13<t.op
   ·simp[h1,h2]
   simp[h1,h2];by_cases h3:t.op=0∨t.op=1∨t.op=2
   ·have eW:(t.op=0∨t.op=1)∨t.op=2:=by omega
    simp[h3,eW];refine⟨_,aCu t,?_⟩;simp
   have eW:¬((t.op=0∨t.op=1)∨t.op=2):=by omega
   simp[h3,eW];refine⟨_,aCw _,?_⟩;have hsl:=aCc t.op;generalize eO t.op=sh at*;simp;by_cases h4:ks.length=sh.1.length
   case neg=>
    have oW:¬((ks.length:Int)=sh.1.length):=by omega
    have Hu:¬t.args.length=sh.1.length:=by omega
    simp[h4,oW,Hu]
   have oW:(ks.length:Int)=sh.1.length:=by omega
   have Hu:t.args.length=sh.1.length:=by omega
   by_cases h5:t.n=0
   case neg=>simp[h4,oW,Hu,h5]
   simp[h4,oW,Hu,h5];refine fQ sh.1.length (nJ sh.1 ks) (fun k=>[.int 0,.int 0,.int (mM sh.1 ks k),.int k]) (fun _=>[]) ?_ (fun k hk ho=>?_) (fun k hk ho hb=>?_) (fun hj=>?_)
   ·simp[mM]
   ·have hw:=bx hk (by omega);have ct:k<ks.length:=by omega
    simp only[mM];unfold nJ at ho;simp only[aT,bH hk,bH ct,jE] at ho ⊢;generalize mM sh.1 ks k=c at*;by_cases a1:sh.1[k]=-1
    ·by_cases a2:c=-1
     ·simp[zy,ua,hk,ct,hw,ints,a1,a2]
     ·simp[a1,a2] at ho;simp[zy,ua,hk,ct,hw,ints,a1,a2,ho]
    ·simp[a1] at ho;simp[zy,ua,hk,ct,hw,ints,a1,ho]
   ·rw[hb];have ct:k<ks.length:=by omega
    unfold nJ at ho;simp only[aT,bH hk,bH ct,jE] at ho;generalize mM sh.1 ks k=c at*;by_cases a1:sh.1[k]=-1
    ·by_cases a2:c=-1
     ·simp[a1,a2] at ho
     ·simp[a1,a2] at ho;simp[zy,ua,hk,ct,ints,a1,a2,ho]
    ·simp[a1] at ho;simp[zy,ua,hk,ct,ints,a1,ho]
   ·rw[hj];simp[zy,ua];by_cases a1:sh.2=-1<;>simp[a1]
def ml (t:Tm):Int×Int:=if 60<cJ 8 t then(0,6) else bT 8 t
theorem ah1 (t:Tm)(ht:t.OK):ao T RR [dE t] (.tup [.int (ml t).1,.int (ml t).2]):=by
 refine .of_tree rfl Yq aEx ?_;simp[WH,ml];refine⟨_,UW 8 t 1 ht (by omega) (by omega),?_⟩;by_cases h:60<cJ 8 t
 ·simp[h]
 simp[h];refine⟨_,UU 8 t ht (by omega),?_⟩;simp
end Rm
namespace Rm
open Go Go.Proofs Cx
abbrev u (n:Nat):D:=.v (.int .u64 n)
theorem ai5 (n:Int):IntKind.u64.wrap n=n%18446744073709551616:=rfl
theorem Fk {n:Int}(h:0≤n∧n<18446744073709551616):IntKind.u64.wrap n=n:=by
 rw[ai5];omega
theorem wR {n:Nat}(h:n<18446744073709551616):IntKind.u64.wrap (n:Int)=n:=Fk (by omega)
theorem aCd (a s:Nat)(h:s≤64):dp .shr .u64 a s=((a/2^s:Nat):Int):=by
 show Int.fdiv (a:Int) (2^(min (s:Int).toNat 64))=_;have:min (s:Int).toNat 64=s:=by simp;omega
 rw[this,ajn _ (Int.le_of_lt (Int.pow_pos (by decide)))];rw[Int.natCast_ediv,Int.natCast_pow];rfl
theorem Nr (a:Nat)(h:a<18446744073709551616):dp .and .u64 a 4294967295=((a%4294967296:Nat):Int):=by
 show IntKind.u64.wrap ((BitVec.ofInt 64 (a:Int)&&& BitVec.ofInt 64 4294967295).toNat:Nat)=_;have e:(BitVec.ofInt 64 (a:Int)&&& BitVec.ofInt 64 4294967295).toNat=a%4294967296:=by
  rw[BitVec.toNat_and];have e1:(BitVec.ofInt 64 (a:Int)).toNat=a:=by simp[BitVec.ofInt,BitVec.toNat_ofNat];omega
  have e2:(BitVec.ofInt 64 4294967295).toNat=2^32-1:=by decide
  rw[e1,e2,Nat.and_two_pow_sub_one_eq_mod]
 rw[e,wR (by omega)]
@[simp] theorem zF (a:Nat):dp .shr .u64 a 32=((a/4294967296:Nat):Int):=aCd a 32 (by decide)
set_option maxHeartbeats 2000000 in
theorem azc (a b:Nat)(ha:a<18446744073709551616)(hb:b<18446744073709551616):ao T ac3 [u a,u b] (.tup [u (a*b/18446744073709551616),u (a*b%18446744073709551616)]):=by
 refine .of_tree rfl akk aCP ?_;obtain⟨h1,h2,h3,h4⟩:=Go.Lib.mul64_hi a b ha hb;have elo:IntKind.u64.wrap ((a:Int)*(b:Int))=((a*b%18446744073709551616:Nat):Int):=by rw[ai5,Int.natCast_emod,Aa];rfl
 have OC:dp .shr .u64 (a:Int) 32=((a/4294967296:Nat):Int):=zF a;have ea0:dp .and .u64 (a:Int) 4294967295=((a%4294967296:Nat):Int):=Nr a ha;have OD:dp .shr .u64 (b:Int) 32=((b/4294967296:Nat):Int):=zF b;have eb0:dp .and .u64 (b:Int) 4294967295=((b%4294967296:Nat):Int):=Nr b hb;have aJ0:=Go.Lib.half_mul_le (a:=a/4294967296) (b:=b/4294967296) (by omega) (by omega);have aJZ:=Go.Lib.half_mul_le (a:=a/4294967296) (b:=b%4294967296) (by omega) (by omega);have aJY:=Go.Lib.half_mul_le (a:=a%4294967296) (b:=b/4294967296) (by omega) (by omega);have aJX:=Go.Lib.half_mul_le (a:=a%4294967296) (b:=b%4294967296) (by omega) (by omega);have Pz:a*b/18446744073709551616<18446744073709551616:=by
  have:a*b<18446744073709551616*18446744073709551616:=Nat.mul_lt_mul'' ha hb;exact Nat.div_lt_of_lt_mul this
 simp only[Va];generalize a/4294967296=a1 at*;generalize a%4294967296=a0 at*;generalize b/4294967296=b1 at*;generalize b%4294967296=b0 at*;have p11:IntKind.u64.wrap ((a1:Int)*(b1:Int))=((a1*b1:Nat):Int):=by rw[←Aa];exact wR (by omega)
 have p10:IntKind.u64.wrap ((a1:Int)*(b0:Int))=((a1*b0:Nat):Int):=by rw[←Aa];exact wR (by omega)
 have p01:IntKind.u64.wrap ((a0:Int)*(b1:Int))=((a0*b1:Nat):Int):=by rw[←Aa];exact wR (by omega)
 have p00:IntKind.u64.wrap ((a0:Int)*(b0:Int))=((a0*b0:Nat):Int):=by rw[←Aa];exact wR (by omega)
 rw[←h4] at Pz ⊢;generalize a1*b1=P at*;generalize a1*b0=Q at*;generalize a0*b1=R at*;generalize a0*b0=S at*;have s1:dp .shr .u64 (S:Int) 32=((S/4294967296:Nat):Int):=zF S;have s2:IntKind.u64.wrap ((Q:Int)+((S/4294967296:Nat):Int))=((Q+S/4294967296:Nat):Int):=by rw[Fk (by omega)];omega
 generalize S/4294967296=S1 at*;generalize hT:Q+S1=TT at*;have s3:dp .shr .u64 (TT:Int) 32=((TT/4294967296:Nat):Int):=zF TT;have s4:dp .and .u64 (TT:Int) 4294967295=((TT%4294967296:Nat):Int):=Nr TT (by omega);have s5:IntKind.u64.wrap (((TT%4294967296:Nat):Int)+(R:Int))=((TT%4294967296+R:Nat):Int):=by rw[Fk (by omega)];omega
 generalize hU:TT%4294967296+R=U at*;have s6:dp .shr .u64 (U:Int) 32=((U/4294967296:Nat):Int):=zF U;have s7:IntKind.u64.wrap ((P:Int)+((TT/4294967296:Nat):Int))=((P+TT/4294967296:Nat):Int):=by rw[Fk (by omega)];omega
 have s8:IntKind.u64.wrap (((P+TT/4294967296:Nat):Int)+((U/4294967296:Nat):Int))=((P+TT/4294967296+U/4294967296:Nat):Int):=by rw[Fk (by omega)];omega
 simp[-zF,-Int.natCast_add,-Int.natCast_mul,-Int.natCast_ediv,-Int.natCast_emod,elo,OC,ea0,OD,eb0,p11,p10,p01,p00,s1,s2,s3,s4,s5,s6,s7,s8]
def rZ (m:Nat):Int:=if m<1099511627776 then m else 1099511627776
def yX (a b:Int):Int:=if(decide (a<0)!=decide (b<0))=true then-rZ (a.natAbs*b.natAbs) else rZ (a.natAbs*b.natAbs)
theorem agp (m:Nat):0≤rZ m∧rZ m≤1099511627776:=by unfold rZ;split<;>omega
set_option maxHeartbeats 1000000 in
theorem aCv (a b:Int)(ha:-1099511627776≤a∧a≤1099511627776)(hb:-1099511627776≤b∧b≤1099511627776):ao T aex [.int a,.int b] (.int (yX a b)):=by
 refine .of_tree rfl alX aEI ?_;have wa:IntKind.u64.wrap (a.natAbs:Int)=a.natAbs:=wR (by omega);have wb:IntKind.u64.wrap (b.natAbs:Int)=b.natAbs:=wR (by omega);have w0a:IntKind.i64.wrap (0-a)=-a:=by rw[bU (by omega)];omega
 have w0b:IntKind.i64.wrap (0-b)=-b:=by rw[bU (by omega)];omega
 have aFd:IntKind.i64.wrap (-a)=-a:=bU (by omega);have aFe:IntKind.i64.wrap (-b)=-b:=bU (by omega);have ea:(if a< -a then D.int (-a) else D.int a)=D.int a.natAbs:=by split<;>congr 1<;>omega
 have eb:(if b< -b then D.int (-b) else D.int b)=D.int b.natAbs:=by split<;>congr 1<;>omega
 have ea':(if a< -a then-a else a)=(a.natAbs:Int):=by split<;>omega
 have eb':(if b< -b then-b else b)=(b.natAbs:Int):=by split<;>omega
 simp[WR,aFd,aFe,ea,eb,ea',eb'];rw[wa,wb];refine⟨_,azc a.natAbs b.natAbs (by omega) (by omega),?_⟩;unfold yX;generalize a.natAbs*b.natAbs=m;have hs:(decide (a<0)!=decide (b<0))=false↔(a<0↔b<0):=by
  by_cases h1:a<0<;>by_cases h2:b<0<;>simp[h1,h2]
 have key:((if((m/18446744073709551616:Nat):Int)=0∧((m%18446744073709551616:Nat):Int)<1099511627776 then IntKind.i64.wrap ((m%18446744073709551616:Nat):Int) else 1099511627776):Int)=rZ m:=by
  unfold rZ;by_cases hm:m<1099511627776
  ·have h1:m/18446744073709551616=0:=by omega
   have h2:m%18446744073709551616=m:=by omega
   rw[h1,h2,if_pos ⟨rfl,by omega⟩,if_pos hm,bU (by omega)]
  ·rw[if_neg hm,if_neg];rintro⟨h1,h2⟩;omega
 have ga:=agp m;have awB:(if((m/18446744073709551616:Nat):Int)=0∧((m%18446744073709551616:Nat):Int)<1099511627776 then D.int (IntKind.i64.wrap ((m%18446744073709551616:Nat):Int)) else D.int 1099511627776)=D.int (rZ m):=by
  rw[←key];split<;>rfl
 show(if a<0↔b<0 then(if((m/18446744073709551616:Nat):Int)=0∧((m%18446744073709551616:Nat):Int)<1099511627776 then D.int (IntKind.i64.wrap ((m%18446744073709551616:Nat):Int)) else D.int 1099511627776)=_ else
  IntKind.i64.wrap (-(if((m/18446744073709551616:Nat):Int)=0∧((m%18446744073709551616:Nat):Int)<1099511627776 then IntKind.i64.wrap ((m%18446744073709551616:Nat):Int) else 1099511627776))=_)
 rw[awB,key];generalize rZ m=n at*;split
 ·rename_i h;rw[hs.2 h];simp
 ·rename_i h;have:(decide (a<0)!=decide (b<0))=true:=by
   cases e:(decide (a<0)!=decide (b<0)) with
   |true=>rfl
   |false=>exact absurd (hs.1 e) h
  rw[this,bU (by omega)];simp
def xj (op a b:Int):Int:=if op=9 then oO (a+b) else if op=10 then oO (a-b) else if op=11 then yX a b else if op=12 then min a b else max a b
theorem aCs (op a b:Int)(ha:-1099511627776≤a∧a≤1099511627776)(hb:-1099511627776≤b∧b≤1099511627776):ao T aev [.int op,.int a,.int b] (.int (xj op a b)):=by
 refine .of_tree rfl alV aEB ?_;have w1:IntKind.i64.wrap (a+b)=a+b:=bU (by omega);have w2:IntKind.i64.wrap (a-b)=a-b:=bU (by omega);simp[WK,xj,w1,w2];by_cases h1:op=9
 ·simp[h1];exact MD _
 by_cases h2:op=10
 ·simp[h1,h2];exact MD _
 by_cases h3:op=11
 ·simp[h1,h2,h3];exact aCv a b ha hb
 by_cases h4:op=12
 ·simp[h1,h2,h3,h4];by_cases h5:b<a<;>simp[h5]<;>omega
 simp[h1,h2,h3,h4];by_cases h5:b>a<;>simp[h5]<;>omega
def dI (b:Bool):Cell:=if b then⟨true,1⟩ else⟨true,0⟩
theorem uo (b:Bool):ao T RZ [.bool b] (cH (dI b)):=by
 refine .of_tree rfl Yy aEK ?_;cases b<;>simp[WT,dI]<;>rfl
def cV:Cell:=⟨false,0⟩
@[simp] theorem aKS:D.agg [.bool false,.int 0]=cH cV:=_root_.id rfl
@[simp] theorem aKT:cV.known=false:=rfl
@[simp] theorem aKU:cV.n=0:=rfl
def cellAt (cs:List Cell)(v:Int):Cell:=cs.getD v.toNat default
def il (cs:List Cell)(v:Int):Cell:=if cs.length≤v.toNat∨(cellAt cs v).known=false then cV else if(l8 v).1=1 then dI (decide ((cellAt cs v).n≠0)) else⟨true,oO (cellAt cs v).n⟩
abbrev OF (cs:List Cell):D:=.agg [cells cs]
theorem aCx (cs:List Cell)(v:Int)(hv:0≤v):ao T RW [OF cs,.int v] (cH (il cs v)):=by
 refine .of_tree rfl Yw aEH ?_;obtain⟨k,rfl⟩:=uE hv;simp[WQ,il,cellAt];by_cases h1:cs.length≤k
 ·simp[h1]
 have cE:k<cs.length:=by omega
 simp[h1,cE];cases h2:cs[k].known
 ·simp[h2]
 simp[h2];refine⟨_,ah2 _,?_⟩;by_cases h3:(l8 k).1=1
 ·simp[h3,cE];refine⟨_,uo _,?_⟩;simp;rfl
 ·simp[h3,cE];refine⟨_,MD _,?_⟩;simp;rfl
@[simp] theorem aKg (a b:Int):(a==b)=decide (a=b):=_root_.id rfl
@[simp] theorem aKh (a b:Int):(a !=b)= !decide (a=b):=_root_.id rfl
def aR (l:List Cell)(k:Nat):Cell:=l.getD k default
def eI (op:Int)(l:List Cell):Cell:=
 if op=3 then(if(aR l 0).known=true then dI (decide ((aR l 0).n=0)) else cV)
 else if(op=4∨op=5)∧(aR l 0=dI (decide (op=5))∨aR l 1=dI (decide (op=5))) then dI (decide (op=5))
 else if op=6 then(if(aR l 1).known=true∧aR l 1=aR l 2 then aR l 1 else cV)
 else if(aR l 0).known=false∨(aR l 1).known=false then cV
 else if op=4∨op=5 then dI (decide (op=4))
 else if op=7 then dI (decide ((aR l 0).n<(aR l 1).n)) else if op=8 then dI (decide ((aR l 0).n=(aR l 1).n)) else⟨true,xj op (aR l 0).n (aR l 1).n⟩
theorem amC (a b:Cell):a=b↔a.known=b.known∧a.n=b.n:=by cases a;cases b;simp
theorem aCt (op:Int)(l:List Cell)(h1:1≤l.length)(h2:op≠3→2≤l.length)(h3:op=6→3≤l.length)
 (hb:9≤op→(-1099511627776≤(aR l 0).n∧(aR l 0).n≤1099511627776)∧(-1099511627776≤(aR l 1).n∧(aR l 1).n≤1099511627776)) (h9:op<3∨8<op→9≤op):
 ao T RU [.int op,cells l] (cH (eI op l)):=by
 refine .of_tree rfl Yt aED ?_;have g0:0<l.length:=by omega
 have uY:l[0]=aR l 0:=by simp[aR,g0]
 simp[WM];unfold eI;by_cases o3:op=3
 ·simp[o3,g0,uY];cases e:(aR l 0).known
  ·simp
  ·simp[g0];refine⟨_,uo _,?_⟩;simp
 have g1:1<l.length:=by have:=h2 o3;omega
 have Ck:l[1]=aR l 1:=by simp[aR,g1]
 have eV:(1:Int)<l.length:=by omega
 simp[o3];have fin:∀a b:Cell,(a=b)=(a.known=b.known∧a.n=b.n):=fun a b=>propext (amC a b);rcases Fs (op=4) with o4|o4
 ·subst o4;simp;refine⟨_,uo _,?_⟩;simp[g0,g1,eV,uY,Ck,fin];split
  ·rfl
  ·split
   ·rfl
   ·refine⟨_,uo _,?_⟩;simp
 rcases Fs (op=5) with o5|o5
 ·subst o5;simp;refine⟨_,uo _,?_⟩;simp[g0,g1,eV,uY,Ck,fin];split
  ·rfl
  ·split
   ·rfl
   ·refine⟨_,uo _,?_⟩;simp
 rcases Fs (op=6) with o6|o6
 ·subst o6;have g2:2<l.length:=by have:=h3 rfl;omega
  have gg2:l[2]=aR l 2:=by simp[aR,g2]
  have nu:(2:Int)<l.length:=by omega
  simp[g1,g2,eV,nu,Ck,gg2,fin];cases e1:(aR l 1).known
  ·simp
  by_cases e2:(aR l 1).known=(aR l 2).known∧(aR l 1).n=(aR l 2).n
  ·rw[e1] at e2;simp[e1,e2]
  ·rw[e1] at e2;have sQ:¬((aR l 2).known=true∧(aR l 1).n=(aR l 2).n):=fun h=>e2 ⟨h.1.symm,h.2⟩;simp only[e1,true_and,if_true]
   first|(rw[if_neg sQ,if_neg sQ])|(simp[sQ])
 simp[o4,o5,o6,g0,g1,eV,uY,Ck];cases e1:(aR l 0).known
 ·simp
 cases e2:(aR l 1).known
 ·simp
 simp[g1,eV,Ck];rcases Fs (op=7) with o7|o7
 ·subst o7;simp;refine⟨_,uo _,?_⟩;simp
 rcases Fs (op=8) with o8|o8
 ·subst o8;simp;refine⟨_,uo _,?_⟩;simp
 simp[o7,o8];obtain⟨b1,b2⟩:=hb (h9 (by omega));refine⟨_,aCs op _ _ b1 b2,?_⟩;simp;rfl
end Rm
namespace Rm
open Go Go.Proofs Cx
def br:Nat→List Cell→Tm→Cell
 |0,_,_=>cV
 |L+1,cs,t=>if t.op=0∨t.op=1 then⟨true,t.n⟩ else if t.op=2 then il cs t.n else
   if t.op=6∧(aR (t.args.map (br L cs)) 0).known=true then aR (t.args.map (br L cs)) (2-(aR (t.args.map (br L cs)) 0).n).toNat else eI t.op (t.args.map (br L cs))
def dT:Nat→List Cell→Tm→List Int
 |0,_,_=>[]
 |L+1,cs,t=>if t.op=0∨t.op=1 then[] else if t.op=2 then(if(il cs t.n).known=true then[] else[t.n]) else
   if t.op=6∧(aR (t.args.map (br L cs)) 0).known=true then(t.args.map (dT L cs)).getD (2-(aR (t.args.map (br L cs)) 0).n).toNat [] else
   if(eI t.op (t.args.map (br L cs))).known=true then[] else(t.args.map (dT L cs)).flatten
theorem uX (L:Nat)(cs:List Cell)(t:Tm):br (L+1) cs t=if t.op=0∨t.op=1 then⟨true,t.n⟩ else if t.op=2 then il cs t.n else
 if t.op=6∧(aR (t.args.map (br L cs)) 0).known=true then aR (t.args.map (br L cs)) (2-(aR (t.args.map (br L cs)) 0).n).toNat else eI t.op (t.args.map (br L cs)):=rfl
theorem IM (L:Nat)(cs:List Cell)(t:Tm):dT (L+1) cs t=if t.op=0∨t.op=1 then[] else if t.op=2 then(if(il cs t.n).known=true then[] else[t.n]) else
 if t.op=6∧(aR (t.args.map (br L cs)) 0).known=true then(t.args.map (dT L cs)).getD (2-(aR (t.args.map (br L cs)) 0).n).toNat [] else
 if(eI t.op (t.args.map (br L cs))).known=true then[] else(t.args.map (dT L cs)).flatten:=rfl
theorem G7 {L:Nat}{t:Tm}{k:Int}(h:bT (L+1) t=(k,0)):(∀a,a∈t.args→(bT L a).2=0)∧vY t (t.args.map fun a=>(bT L a).1)=(k,0):=by
 rw[Oo] at h;by_cases e:eU t.args.length (fun k=>(bT L (t.args.getD k default)).2)=0
 ·rw[if_neg (by simpa using e)] at h;refine⟨fun a ha=>?_,h⟩;obtain⟨j,hj,rfl⟩:=nf ha;have:=OU.1 e j hj;simpa [hj] using this
 ·rw[if_pos e] at h;injection h with _ h
  exact absurd h e
inductive Node (ks:List Int) (t:Tm):Int→Prop where
 |int (h:t.op=0) (ha:t.args=[]) (hn:-1099511627776≤t.n∧t.n≤1099511627776):Node ks t 0
 |bool (h:t.op=1) (ha:t.args=[]) (hn:t.n=0∨t.n=1):Node ks t 1
 |var (h:t.op=2) (ha:t.args=[]) (hn:0≤t.n∧t.n≤19):Node ks t (l8 t.n).1
 |not (h:t.op=3) (hk:ks=[1]):Node ks t 1
 |log (h:t.op=4∨t.op=5) (hk:ks=[1,1]):Node ks t 1
 |ite (k:Int) (h:t.op=6) (hk:ks=[1,k,k]):Node ks t k
 |less (h:t.op=7) (hk:ks=[0,0]):Node ks t 1
 |equal (k:Int) (h:t.op=8) (hk:ks=[k,k]):Node ks t 1
 |num (h:9≤t.op∧t.op≤13) (hk:ks=[0,0]):Node ks t 0
theorem aFa (v:Int):(l8 v).1=0∨(l8 v).1=1:=by
 unfold l8;repeat' split
 all_goals simp
theorem azu {t:Tm}{ks:List Int}{k:Int}(hl:ks.length=t.args.length)(iM:∀x,x∈ks→x=0∨x=1)(h:vY t ks=(k,0)):Node ks t k:=by
 unfold vY at h;split at h
 ·injection h with _ h;cases h
 rename_i bO;split at h
 ·rename_i h3;unfold Dn at h;split at h
  ·injection h with _ h;cases h
  rename_i ha0;have ha:t.args=[]:=XI (by omega);split at h
  ·rename_i h0;split at h
   ·injection h with _ h;cases h
   ·rename_i hc;injection h with h _
    subst h;refine .int h0 ha ?_;unfold oO at hc;omega
  split at h
  ·rename_i h0;split at h
   ·injection h with _ h;cases h
   ·rename_i hc;injection h with h _
    subst h;exact .bool h0 ha (by omega)
  split at h
  ·injection h with _ h;cases h
  ·rename_i g0 g1 hc;injection h with h _
   subst h;refine .var (by omega) ha ?_;unfold l8 at hc;split at hc
   ·simp at hc
   ·omega
 rename_i h3;split at h
 ·injection h with _ h;cases h
 rename_i hlen;have nD:ks.length=(eO t.op).1.length:=by
  refine z7 fun hh=>hlen (.inl hh)
 split at h
 ·injection h with _ h;cases h
 rename_i aH;have jt:∀j,j<(eO t.op).1.length→nJ (eO t.op).1 ks j=true:=xg.1 (by simpa using aH)
 have two:∀{n:Nat},ks.length=2→∃a b,ks=[a,b]:=fun h=>by
  match ks,h with
  |[a,b],_=>exact⟨a,b,rfl⟩
 by_cases o3:t.op=3
 ·have e:eO t.op=([1],1):=by simp[eO,o3]
  rw[e] at nD jt h
  match ks,nD with
  |[a],_=>
   have:=jt 0 (by simp);simp[nJ] at this;simp at h;subst h this;exact .not o3 rfl
 by_cases IS:t.op=4∨t.op=5
 ·have e:eO t.op=([1,1],1):=by simp[eO,o3,IS]
  rw[e] at nD jt h
  match ks,nD with
  |[a,b],_=>
   have t1:=jt 0 (by simp);have t2:=jt 1 (by simp);simp[nJ] at t1 t2;simp at h;subst h t1 t2;exact .log IS rfl
 by_cases o6:t.op=6
 ·have e:eO t.op=([1,-1,-1],-1):=by simp[eO,o6]
  rw[e] at nD jt h
  match ks,nD,iM with
  |[a,b,c],_,iM=>
   have t1:=jt 0 (by simp);have t3:=jt 2 (by simp);have hb:=iM b (by simp);have qs:¬b=-1:=by omega
   simp[nJ] at t1;simp[nJ,mM,qs] at t3;simp[mM,qs] at h;subst h t1 t3;exact .ite _ o6 rfl
 by_cases o7:t.op=7
 ·have e:eO t.op=([0,0],1):=by simp[eO,o7]
  rw[e] at nD jt h
  match ks,nD with
  |[a,b],_=>
   have t1:=jt 0 (by simp);have t2:=jt 1 (by simp);simp[nJ] at t1 t2;simp at h;subst h t1 t2;exact .less o7 rfl
 by_cases o8:t.op=8
 ·have e:eO t.op=([-1,-1],1):=by simp[eO,o8]
  rw[e] at nD jt h
  match ks,nD,iM with
  |[a,b],_,iM=>
   have t2:=jt 1 (by simp);have ha:=iM a (by simp);have han:¬a=-1:=by omega
   simp[nJ,mM,han] at t2;simp at h;subst h t2;exact .equal _ o8 rfl
 have e:eO t.op=([0,0],0):=by simp[eO,o3,IS,o6,o7,o8]
 rw[e] at nD jt h
 match ks,nD with
 |[a,b],_=>
  have t1:=jt 0 (by simp);have t2:=jt 1 (by simp);simp[nJ] at t1 t2;simp at h;subst h t1 t2;exact .num (by omega) rfl
theorem G8:∀{L:Nat} {t:Tm} {k:Int},bT (L+1) t=(k,0)→Node (t.args.map fun a=>(bT L a).1) t k∧(k=0∨k=1)
 |L,t,k,h=>by
  obtain⟨h1,h2⟩:=G7 h
  have iM:∀x,x∈(t.args.map fun a=>(bT L a).1)→x=0∨x=1:=by
   intro x hx;obtain⟨a,ha,rfl⟩:=ej.1 hx;cases L with
   |zero=>exact .inl rfl
   |succ L=>exact(G8 (L:=L) (t:=a) (k:=(bT (L+1) a).1) (by rw[←h1 a ha])).2
  have hn:=azu (by simp) iM h2;refine⟨hn,?_⟩;cases hn with
  |int=>simp
  |bool=>simp
  |var=>exact aFa _
  |not=>simp
  |log=>simp
  |ite k _ hk=>exact iM k (by rw[hk];simp)
  |less=>simp
  |equal=>simp
  |num=>simp
end Rm
namespace Rm
open Go Go.Proofs Cx
def sI (k:Int)(c:Cell):Prop:=(c.known=false→c=cV)∧(c.known=true→(k=1→c.n=0∨c.n=1)∧(k=0→-1099511627776≤c.n∧c.n≤1099511627776))
theorem uc (k:Int):sI k cV:=⟨fun _=>rfl,fun h=>by cases h⟩
theorem zB (b:Bool):sI 1 (dI b):=⟨fun h=>(by cases b<;>cases h),fun _=>⟨fun _=>(by cases b<;>simp[dI]),fun h=>by cases h⟩⟩
theorem Ow (n:Int):-1099511627776≤oO n∧oO n≤1099511627776:=by unfold oO;omega
theorem aBQ (cs:List Cell)(v:Int)(hv:0≤v∧v≤19):sI (l8 v).1 (il cs v):=by
 unfold il;split
 ·exact uc _
 ·split
  ·rename_i h;rw[h];exact zB _
  ·rename_i h;refine⟨fun h=>(by cases h),fun _=>⟨fun h'=>absurd h' h,fun _=>Ow _⟩⟩
theorem aAR (a b:Int):-1099511627776≤yX a b∧yX a b≤1099511627776:=by
 unfold yX;have:=agp (a.natAbs*b.natAbs);split<;>omega
theorem ajT (op a b:Int)(ha:-1099511627776≤a∧a≤1099511627776)(hb:-1099511627776≤b∧b≤1099511627776):-1099511627776≤xj op a b∧xj op a b≤1099511627776:=by
 unfold xj;split
 ·exact Ow _
 split
 ·exact Ow _
 split
 ·exact aAR _ _
 split<;>omega
theorem ay0 {α β:Type}{f:α→β}{l:List α}{x:β}(h:l.map f=[x]):∃a,l=[a]∧f a=x:=by
 match l,h with
 |[a],h=>exact⟨a,rfl,by simpa using h⟩
theorem yx {α β:Type}{f:α→β}{l:List α}{x y:β}(h:l.map f=[x,y]):∃a b,l=[a,b]∧f a=x∧f b=y:=by
 match l,h with
 |[a,b],h=>exact⟨a,b,rfl,by simpa using h⟩
theorem IA {α β:Type}{f:α→β}{l:List α}{x y z:β}(h:l.map f=[x,y,z]):∃a b c,l=[a,b,c]∧f a=x∧f b=y∧f c=z:=by
 match l,h with
 |[a,b,c],h=>exact⟨a,b,c,rfl,by simpa using h⟩
theorem OM:∀{L:Nat} {t:Tm} {k:Int} (cs:List Cell),bT L t=(k,0)→sI k (br L cs t)
 |0,t,k,cs,h=>uc _
 |L+1,t,k,cs,h=>by
  obtain⟨hn,hk⟩:=G8 h;obtain⟨ha,_⟩:=G7 h;have ih:∀a,a∈t.args→sI (bT L a).1 (br L cs a):=fun a hm=>OM cs (show bT L a=((bT L a).1,0) by rw[←ha a hm]);rw[uX];cases hn with
  |int h0 ha hn=>rw[if_pos (.inl h0)];exact⟨fun h=>(by cases h),fun _=>⟨fun h=>(by cases h),fun _=>hn⟩⟩
  |bool h0 ha hn=>rw[if_pos (.inr h0)];exact⟨fun h=>(by cases h),fun _=>⟨fun _=>hn,fun h=>by cases h⟩⟩
  |var h0 ha hn=>rw[if_neg (by omega),if_pos h0];exact aBQ cs _ hn
  |not h0 hk=>
   rw[if_neg (by omega),if_neg (by omega),if_neg (by omega)];unfold eI;rw[if_pos h0];split
   ·exact zB _
   ·exact uc _
  |log h0 hk=>
   rw[if_neg (by omega),if_neg (by omega),if_neg (by omega)];unfold eI;rw[if_neg (by omega)];split
   ·exact zB _
   rw[if_neg (by omega)];split
   ·exact uc _
   exact zB _
  |ite k h0 ct=>
   obtain⟨a,b,c,hl,e1,e2,e3⟩:=IA ct;rw[hl] at ih ⊢;have r1:=ih a (by simp);have r2:=ih b (by simp);have r3:=ih c (by simp);rw[e1] at r1;rw[e2] at r2;rw[e3] at r3;rw[if_neg (by omega),if_neg (by omega)];simp only[gn,Ad,aR,sE];split
   ·rename_i hh;rcases(r1.2 hh.2).1 rfl with h1|h1<;>rw[h1]
    ·exact r3
    ·exact r2
   ·unfold eI;rw[if_neg (by omega),if_neg (by omega),if_pos h0];simp only[aR,sE,Ab];split
    ·exact r2
    ·exact uc _
  |less h0 hk=>
   rw[if_neg (by omega),if_neg (by omega),if_neg (by omega)];unfold eI;rw[if_neg (by omega),if_neg (by omega),if_neg (by omega)];split
   ·exact uc _
   repeat' split
   all_goals exact zB _
  |equal k h0 hk=>
   rw[if_neg (by omega),if_neg (by omega),if_neg (by omega)];unfold eI;rw[if_neg (by omega),if_neg (by omega),if_neg (by omega)];split
   ·exact uc _
   repeat' split
   all_goals exact zB _
  |num h0 ct=>
   obtain⟨a,b,hl,e1,e2⟩:=yx ct;rw[hl] at ih ⊢;have r1:=ih a (by simp);have r2:=ih b (by simp);rw[e1] at r1;rw[e2] at r2;rw[if_neg (by omega),if_neg (by omega),if_neg (by omega)];unfold eI;rw[if_neg (by omega),if_neg (by omega),if_neg (by omega)];simp only[gn,Ad,aR,sE,Ab];split
   ·exact uc _
   rename_i pf;rw[if_neg (by omega),if_neg (by omega),if_neg (by omega)];have k1:(br L cs a).known=true:=by
    cases e:(br L cs a).known with
    |true=>rfl
    |false=>exact absurd (.inl e) pf
   have k2:(br L cs b).known=true:=by
    cases e:(br L cs b).known with
    |true=>rfl
    |false=>exact absurd (.inr e) pf
   exact⟨fun h=>(by cases h),fun _=>⟨fun h=>(by cases h),fun _=>ajT _ _ _ ((r1.2 k1).2 rfl) ((r2.2 k2).2 rfl)⟩⟩
theorem aeB:∀(L:Nat) (cs:List Cell) (t:Tm),cJ L t≤60→((dT L cs t).length:Int)≤cJ L t
 |0,cs,t,h=>by simp[cJ] at h
 |L+1,cs,t,h=>by
  have h1:=vW (L+1) t;obtain⟨hl,hp⟩:=Ru h;have hs:∀(l:List Tm) (n:Int),(∀a,a∈l→cJ L a≤60)→fB (cJ L) l n≤60→((l.map (dT L cs)).flatten.length:Int)+n≤fB (cJ L) l n∧∀j,(((l.map (dT L cs)).getD j []).length:Int)+n≤fB (cJ L) l n:=by
   intro l
   induction l with
   |nil=>intro n _ _;simp[fB]
   |cons a l ih=>
    intro n hp hm;have ha:=aeB L cs a (hp a (by simp));unfold fB at hm ⊢;split at hm
    ·omega
    ·rename_i h60;rw[if_neg h60];obtain⟨i1,i2⟩:=ih (n+cJ L a) (fun b hb=>hp b (by simp[hb])) hm;refine⟨by rw[gn,XM,kD];omega,fun j=>?_⟩;cases j with
     |zero=>simp;omega
     |succ j=>have:=i2 j;simp at this ⊢;omega
  obtain⟨hs1,eB⟩:=hs t.args 1 hp h;rw[IM];split
  ·simp;omega
  split
  ·split<;>simp<;>omega
  split
  ·have:=eB (2-(aR (t.args.map (br L cs)) 0).n).toNat;show _≤fB _ _ _;omega
  split
  ·simp;omega
  ·show _≤fB _ _ _;omega
@[simp] theorem aLM (x y:List Int):uk (ints x) 0 (ints y)=ints y:=_root_.id rfl
@[simp] theorem aCi (x y:Cell):uk (cH x) 0 (cH y)=cH y:=_root_.id rfl
@[simp] theorem aKi (a b:List Int):D.list (a.map D.int++b.map D.int)=ints (a++b):=by simp[ints]
def lists (l:List (List Int)):D:=.list (l.map ints)
@[simp] theorem aKv (l:List (List Int)):(lists l).l=l.map ints:=_root_.id rfl
theorem ajd (l:List (List Int))(hl:l.length≤1000)(hs:l.flatten.length≤1000000):ao T RL [lists l] (ints l.flatten):=by
 refine .of_tree rfl Yl aEe ?_;simp[Wq];have hb:∀k,(l.take k).flatten.length≤l.flatten.length:=by
  intro k
  conv=>rhs;rw[←M9 k l]
  rw[List.flatten_append,kD];omega
 have bF:∀k (hk:k<l.length),(l.take (k+1)).flatten=(l.take k).flatten++l[k]:=fun k hk=>by
  rw[mi hk,List.flatten_append];simp
 refine aY.forRounds l.length (fun k=>[.int ((l.take k).flatten.length:Nat),.int k]) (fun k=>[]) ?_ (fun k hk=>?_) ?_
 ·simp
 ·have hw:=bx hk (by omega);have h1:=bF k hk;have h2:=hb (k+1);rw[h1] at h2 ⊢;rw[kD] at h2 ⊢;generalize (l.take k).flatten.length=m at*;have rN:IntKind.i64.wrap ((m:Int)+(l[k].length:Int))=(m:Int)+l[k].length:=bU (by omega);have CT:¬((m:Int)+l[k].length<0):=by omega
  simp[ahf,Md,hk,hw,rN,CT]
 ·simp[ahf,Md];have aa3:ao T 266 [.list [],.int (l.flatten.length:Nat)] (.list []):=by
   refine .of_ext (g:=fun _ ds=>Cl ds) rfl ⟨0,fun _ _=>?_⟩;show(if(0:Int)≤(l.flatten.length:Nat)∧((l.flatten.length:Nat):Int)≤4294967296 then some (D.list []) else none)=some (D.list []);rw[if_pos (by omega)]
  rw[List.length_flatten] at aa3;refine⟨_,aa3,?_⟩;refine aY.forRounds l.length (fun k=>[.none,.int k]) (fun k=>[ints (l.take k).flatten]) ?_ (fun k hk=>?_) ?_
  ·simp[ints]
  ·have hw:=bx hk (by omega);have h1:=bF k hk;have h2:=hb (k+1);rw[h1] at h2 ⊢;rw[kD] at h2;generalize (l.take k).flatten=m at*;simp[ahg,Me,hk,hw];omega
  ·simp[ahg,Me]
theorem aoQ {op:Int}{l:List Cell}(h:(eI op l).known=false):eI op l=cV:=by
 have hy:∀b,(dI b).known=true:=fun b=>by cases b<;>simp[dI]
 unfold eI at h ⊢;split<;>rename_i c1
 ·rw[if_pos c1] at h;split<;>rename_i c2
  ·rw[if_pos c2,hy] at h;cases h
  ·rfl
 rw[if_neg c1] at h;split<;>rename_i c2
 ·rw[if_pos c2,hy] at h;cases h
 rw[if_neg c2] at h;split<;>rename_i c3
 ·rw[if_pos c3] at h;split<;>rename_i c4
  ·rw[if_pos c4,c4.1] at h;cases h
  ·rfl
 rw[if_neg c3] at h;split<;>rename_i c4
 ·rfl
 rw[if_neg c4] at h
 repeat' split at h
 all_goals first|(rw[hy] at h;cases h)|cases h
theorem ah3:∀(L:Nat) (cs:List Cell) (t:Tm) (k:Int),t.OK→cJ L t≤60→bT L t=(k,0)→ao T IL [OF cs,dE t] (.tup [cH (br L cs t),ints (dT L cs t)])
 |0,cs,t,k,ht,hm,hc=>by simp[cJ] at hm
 |L+1,cs,t,k,ht,hm,hc=>by
  refine .of_tree rfl Yv aEG ?_;obtain⟨hl,hp⟩:=Ru hm;obtain⟨ha,_⟩:=G7 hc;obtain⟨hn,aJS⟩:=G8 hc;have ia:∀a,a∈t.args→ao T IL [OF cs,dE a] (.tup [cH (br L cs a),ints (dT L cs a)]):=fun a eZ=>ah3 L cs a (bT L a).1 (ht.arg eZ) (hp a eZ) (by rw[←ha a eZ]);have C6:∀a,a∈t.args→sI (bT L a).1 (br L cs a):=fun a eZ=>OM cs (show bT L a=((bT L a).1,0) by rw[←ha a eZ]);have hnl:∀a,a∈t.args→(dT L cs a).length≤60:=fun a eZ=>by have:=aeB L cs a (hp a eZ);have:=hp a eZ;omega
  by_cases iM:t.op=0∨t.op=1
  ·
   have e1:br (L+1) cs t=⟨true,t.n⟩:=by rw[uX,if_pos iM]
   have e2:dT (L+1) cs t=[]:=by rw[IM,if_pos iM]
   rw[e1,e2];rcases iM with h|h<;>simp[Fg,h]<;>exact⟨rfl,rfl⟩
  have o0:t.op≠0:=fun h=>iM (.inl h);have o1:t.op≠1:=fun h=>iM (.inr h);by_cases o2:t.op=2
  ·have hv:0≤t.n:=by
    cases hn with
    |var h0 ha hn=>exact hn.1
    |_=>omega
   have e1:br (L+1) cs t=il cs t.n:=by rw[uX,if_neg iM,if_pos o2]
   have e2:dT (L+1) cs t=if(il cs t.n).known=true then[] else[t.n]:=by rw[IM,if_neg iM,if_pos o2]
   rw[e1,e2];simp[Fg,o2];refine⟨_,aCx cs t.n hv,?_⟩;cases e:(il cs t.n).known
   ·have:il cs t.n=cV:=by
     unfold il at e ⊢;split
     ·rfl
     ·rename_i h;rw[if_neg h] at e;split at e
      ·cases hb:decide ((cellAt cs t.n).n≠0)<;>rw[hb] at e<;>cases e
      ·cases e
    rw[this];simp[ints]
   ·have h:il cs t.n=⟨true,(il cs t.n).n⟩:=by rw[←e]
    rw[h];simp[ints]
    try rfl
  have hlen:1≤t.args.length∧(t.op≠3→2≤t.args.length)∧(t.op=6→3≤t.args.length):=by
   cases hn with
   |int h0 ha hn=>omega
   |bool h0 ha hn=>omega
   |var h0 ha hn=>omega
   |not h0 hk=>obtain⟨a,hl,_⟩:=ay0 hk;rw[hl];simp;omega
   |log h0 hk=>obtain⟨a,b,hl,_⟩:=yx hk;rw[hl];simp;omega
   |ite k h0 hk=>obtain⟨a,b,c,hl,_⟩:=IA hk;rw[hl];simp
   |less h0 hk=>obtain⟨a,b,hl,_⟩:=yx hk;rw[hl];simp;omega
   |equal k h0 hk=>obtain⟨a,b,hl,_⟩:=yx hk;rw[hl];simp;omega
   |num h0 hk=>obtain⟨a,b,hl,_⟩:=yx hk;rw[hl];simp;omega
  have hb9:9≤t.op→(-1099511627776≤(aR (t.args.map (br L cs)) 0).n∧(aR (t.args.map (br L cs)) 0).n≤1099511627776)∧(-1099511627776≤(aR (t.args.map (br L cs)) 1).n∧(aR (t.args.map (br L cs)) 1).n≤1099511627776):=by
   intro h9;have rb:∀c:Cell,sI 0 c→-1099511627776≤c.n∧c.n≤1099511627776:=by
    intro c hr;cases e:c.known with
    |false=>rw[hr.1 e];simp
    |true=>exact(hr.2 e).2 rfl
   cases hn with
   |num h0 hk=>
    obtain⟨a,b,hl,ea,eb⟩:=yx hk;rw[hl] at C6 ⊢;have r1:=C6 a (by simp);have r2:=C6 b (by simp);rw[ea] at r1;rw[eb] at r2;exact⟨rb _ r1,rb _ r2⟩
   |log h0 hk=>omega
   |_=>omega
  have h6:t.op=6→(aR (t.args.map (br L cs)) 0).known=true→(aR (t.args.map (br L cs)) 0).n=0∨(aR (t.args.map (br L cs)) 0).n=1:=by
   intro o6 pf;cases hn with
   |ite k h0 hk=>
    obtain⟨a,b,c,hl,ea,_⟩:=IA hk;rw[hl] at C6 pf ⊢;have r1:=C6 a (by simp);rw[ea] at r1;exact(r1.2 pf).1 rfl
   |log h0 hk=>omega
   |num h0 hk=>omega
   |_=>omega
  have bO:t.op<3∨8<t.op→9≤t.op:=by
   cases hn with
   |log h0 hk=>omega
   |num h0 hk=>omega
   |_=>omega
  have e1:br (L+1) cs t=if t.op=6∧(aR (t.args.map (br L cs)) 0).known=true then aR (t.args.map (br L cs)) (2-(aR (t.args.map (br L cs)) 0).n).toNat else eI t.op (t.args.map (br L cs)):=by
   rw[uX,if_neg iM,if_neg o2]
  have e2:dT (L+1) cs t=if t.op=6∧(aR (t.args.map (br L cs)) 0).known=true then(t.args.map (dT L cs)).getD (2-(aR (t.args.map (br L cs)) 0).n).toNat [] else if(eI t.op (t.args.map (br L cs))).known=true then[] else(t.args.map (dT L cs)).flatten:=by
   rw[IM,if_neg iM,if_neg o2]
  rw[e1,e2];simp[Fg,o0,o1,o2];refine⟨by omega,?_⟩;refine aY.forRounds t.args.length (fun k=>[.int k]) (fun k=>[cells ((t.args.map (br L cs)).take k++List.replicate (t.args.length-k) cV),lists ((t.args.map (dT L cs)).take k++List.replicate (t.args.length-k) [])]) ?_ (fun k hk=>?_) ?_
  ·simp[cells,lists,ints]
  ·have hw:=bx hk (by omega);have cU:=de hk;have hr:=ia _ cU;have s1:=UM (t.args.map (br L cs)) cV (n:=t.args.length) (by simp) hk;have s2:=UM (t.args.map (dT L cs)) [] (n:=t.args.length) (by simp) hk;rw[←s1,←s2];have l1:((t.args.map (br L cs)).take k++List.replicate (t.args.length-k) cV).length=t.args.length:=by simp;omega
   have l2:((t.args.map (dT L cs)).take k++List.replicate (t.args.length-k) []).length=t.args.length:=by simp;omega
   have g1:(t.args.map (br L cs))[k]'(by simpa using hk)=br L cs t.args[k]:=by simp
   have g2:(t.args.map (dT L cs))[k]'(by simpa using hk)=dT L cs t.args[k]:=by simp
   rw[g1,g2];generalize (t.args.map (br L cs)).take k++List.replicate (t.args.length-k) cV=A at*;generalize (t.args.map (dT L cs)).take k++List.replicate (t.args.length-k) []=B at*;generalize br L cs t.args[k]=c at*;generalize dT L cs t.args[k]=d at*;simp[Uv,ER,hk];refine⟨_,hr,?_⟩;simp[hw,hk,l1,l2,cells,lists]
  ·have hA:(t.args.map (br L cs)).take t.args.length++List.replicate (t.args.length-t.args.length) cV=t.args.map (br L cs):=by rw[Nb,List.replicate_zero,mf,Af (by simp)]
   have hB:(t.args.map (dT L cs)).take t.args.length++List.replicate (t.args.length-t.args.length) []=t.args.map (dT L cs):=by rw[Nb,List.replicate_zero,mf,Af (by simp)]
   have lA:(t.args.map (br L cs)).length=t.args.length:=by simp
   have lB:(t.args.map (dT L cs)).length=t.args.length:=by simp
   have jL:∀l:List Tm,(∀a,a∈l→a∈t.args)→((l.map (dT L cs)).flatten.length≤l.length*60):=by
    intro l
    induction l with
    |nil=>intro _;simp
    |cons a l ih=>
     intro h;have h1:=hnl a (h a (by simp));have h2:=ih (fun b hb=>h b (by simp[hb]));rw[gn,XM,kD,ox];omega
   have jL:=jL t.args (fun a h=>h);have hBg:∀m:Nat,(Option.map (dT L cs) t.args[m]?).getD []=(t.args.map (dT L cs)).getD m []:=fun m=>by simp[aT]
   rw[hA,hB];generalize t.args.map (br L cs)=A at*;generalize t.args.map (dT L cs)=B at*;have g0:0<A.length:=by omega
   have uY:A[0]=aR A 0:=by simp[aR,g0]
   by_cases Hx:t.op=6∧(aR A 0).known=true
   ·obtain⟨o6,kn⟩:=Hx;have hv:=h6 o6 kn;have hw:IntKind.i64.wrap (2-(aR A 0).n)=2-(aR A 0).n:=bU (by omega);have h3:3≤t.args.length:=hlen.2.2 o6;rw[if_pos ⟨o6,kn⟩,if_pos ⟨o6,kn⟩];obtain⟨m,eZ⟩:∃m:Nat,m=(2-(aR A 0).n).toNat:=⟨_,rfl⟩
    have CQ:m<A.length:=by omega
    have PJ:m<B.length:=by omega
    simp[Uv,ER,o6,kn,g0,uY,hw,←eZ,CQ,PJ,cells,lists];refine⟨by omega,by omega,by simp[aR,CQ],?_⟩;rw[hBg,aT,bH PJ];rfl
   ·rw[if_neg Hx,if_neg Hx];have at7:=aCt t.op A (by omega) (by omega) (by omega) hb9 bO;have aub:=ajd B (by omega) (by omega);simp[Uv,ER,g0,uY];rw[if_neg Hx];refine⟨_,at7,?_⟩;cases e:(eI t.op A).known
    ·have dY:eI t.op A=cV:=aoQ e;rw[dY];simp;exact aub
    ·have h:eI t.op A=⟨true,(eI t.op A).n⟩:=by rw[←e]
     rw[h];simp[ints]
     try rfl
end Rm
namespace Rm
open Go Go.Proofs Cx
def mL (n:Nat)(g:Nat→Bool):Int:=if(List.range n).findIdx g<n then((List.range n).findIdx g:Nat) else-1
theorem Dl (n:Nat)(g:Nat→Bool):(mL n g=-1∧∀k,k<n→g k=false)∨∃k:Nat,k<n∧mL n g=k∧g k=true∧∀i,i<k→g i=false:=by
 unfold mL;split
 ·rename_i h;refine .inr ⟨_,h,rfl,?_,fun i hi=>?_⟩
  ·have:=List.findIdx_getElem (p:=g) (xs:=List.range n) (w:=by simpa using h);simpa using this
  ·have:=List.not_of_lt_findIdx (p:=g) (xs:=List.range n) hi;simpa using this
 ·rename_i h;refine .inl ⟨rfl,fun k hk=>?_⟩;have:=List.not_of_lt_findIdx (p:=g) (xs:=List.range n) (i:=k) (by omega);simpa using this
theorem QL {n:Nat}{g:Nat→Bool}(h:∀k,k<n→g k=false):mL n g=-1:=by
 rcases Dl n g with⟨h1,_⟩|⟨k,hk,_,h2,_⟩
 ·exact h1
 ·rw[h k hk] at h2;cases h2
theorem QM {n k:Nat}{g:Nat→Bool}(hk:k<n)(h:g k=true)(hj:∀i,i<k→g i=false):mL n g=k:=by
 rcases Dl n g with⟨_,h1⟩|⟨m,hm,h1,h2,h3⟩
 ·rw[h1 k hk] at h;cases h
 ·rcases Nat.lt_trichotomy m k with h4|h4|h4
  ·rw[hj m h4] at h2;cases h2
  ·rw[h1,h4]
  ·rw[h3 k h4] at h;cases h
theorem ab5 (n:Nat)(g:Nat→Bool):decide (0≤mL n g)=(List.range n).any g:=by
 rcases Dl n g with⟨h1,h2⟩|⟨m,hm,h1,h2,h3⟩
 ·rw[h1]
  symm
  simp;exact h2
 ·rw[h1];simp;exact⟨m,hm,h2⟩
theorem ajj (l:List Rule)(f:Nat)(caps:List D)(g:Nat→Bool)(hg:∀k (hk:k<l.length),ao T f (ry l[k]::caps) (.bool (g k)))(hl:l.length≤4294967296):
 ao T RN [rules l,.clo f caps] (.int (mL l.length g)):=by
 refine .of_tree rfl Yn aEk ?_;simp[Ww];refine .scan l.length (fun k=>g k=false) (fun k=>[.int 0,.int k]) (fun _=>[]) ?_ (fun k hk hj ho=>?_) (fun k hk hj ho=>?_) (fun hj=>?_)
 ·simp
 ·have hw:=bx hk hl;simp[Up,EL,hk,hw];refine⟨_,_,⟨rfl,rfl⟩,_,hg k hk,?_⟩;simp[ho,hw]
 ·have he:=QM hk (by simpa using ho) hj;simp[Up,EL,hk,he];refine⟨_,_,⟨rfl,rfl⟩,_,hg k hk,?_⟩;simp[ho]
 ·have he:=QL hj;simp[Up,EL,he]
theorem ajk (l:List Int)(f:Nat)(caps:List D)(g:Nat→Bool)(hg:∀k (hk:k<l.length),ao T f (.int l[k]::caps) (.bool (g k)))(hl:l.length≤4294967296):
 ao T aej [ints l,.clo f caps] (.int (mL l.length g)):=by
 refine .of_tree rfl alI aEl ?_;simp[Wx];refine .scan l.length (fun k=>g k=false) (fun k=>[.int 0,.int k]) (fun _=>[]) ?_ (fun k hk hj ho=>?_) (fun k hk hj ho=>?_) (fun hj=>?_)
 ·simp
 ·have hw:=bx hk hl;simp[Uq,EM,hk,hw,ints];refine⟨_,_,⟨rfl,rfl⟩,_,hg k hk,?_⟩;simp[ho,hw]
 ·have he:=QM hk (by simpa using ho) hj;simp[Uq,EM,hk,he,ints];refine⟨_,_,⟨rfl,rfl⟩,_,hg k hk,?_⟩;simp[ho]
 ·have he:=QL hj;simp[Uq,EM,he,ints]
theorem aji (l:List Alter)(f:Nat)(caps:List D)(g:Nat→Bool)(hg:∀k (hk:k<l.length),ao T f (oR l[k]::caps) (.bool (g k)))(hl:l.length≤4294967296):
 ao T aei [alters l,.clo f caps] (.int (mL l.length g)):=by
 refine .of_tree rfl alH aEj ?_;simp[Wv];refine .scan l.length (fun k=>g k=false) (fun k=>[.int 0,.int k]) (fun _=>[]) ?_ (fun k hk hj ho=>?_) (fun k hk hj ho=>?_) (fun hj=>?_)
 ·simp
 ·have hw:=bx hk hl;simp[Uo,EK,hk,hw];refine⟨_,_,⟨rfl,rfl⟩,_,hg k hk,?_⟩;simp[ho,hw]
 ·have he:=QM hk (by simpa using ho) hj;simp[Uo,EK,hk,he];refine⟨_,_,⟨rfl,rfl⟩,_,hg k hk,?_⟩;simp[ho]
 ·have he:=QL hj;simp[Uo,EK,he]
theorem ajf (l:List Int)(f:Nat)(caps:List D)(g:Nat→Bool)(hg:∀k (hk:k<l.length),ao T f (.int l[k]::caps) (.bool (g k)))(hl:l.length≤4294967296):
 ao T aeg [ints l,.clo f caps] (.bool ((List.range l.length).any g)):=by
 refine .of_tree rfl alF aEg ?_;simp[Ws];refine⟨_,ajk l f caps g hg hl,?_⟩;have:=ab5 l.length g;simp[←this]
theorem aje (l:List Alter)(f:Nat)(caps:List D)(g:Nat→Bool)(hg:∀k (hk:k<l.length),ao T f (oR l[k]::caps) (.bool (g k)))(hl:l.length≤4294967296):
 ao T aef [alters l,.clo f caps] (.bool ((List.range l.length).any g)):=by
 refine .of_tree rfl alE aEf ?_;simp[Wr];refine⟨_,aji l f caps g hg hl,?_⟩;have:=ab5 l.length g;simp[←this]
def mq (cs:List Cell)(t:Tm):Cell:=if(ml t).2=0 then br 8 cs t else cV
theorem Zu {t:Tm}(h:(ml t).2=0):cJ 8 t≤60∧bT 8 t=((ml t).1,0):=by
 unfold ml at h ⊢;split at h
 ·cases h
 ·rename_i hm;rw[if_neg hm];exact⟨by omega,by rw[←h]⟩
theorem aCr (t:Tm)(cs:List Cell)(ht:t.OK):ao T aet [dE t,cells cs] (cH (mq cs t)):=by
 refine .of_tree rfl alT aEy ?_;simp[WI,mq];refine⟨_,ah1 t ht,?_⟩;by_cases h:(ml t).2=0
 ·obtain⟨h1,h2⟩:=Zu h;simp[h];refine⟨_,ah3 8 cs t _ ht h1 h2,?_⟩;simp
  try rfl
 ·simp[h]
  try rfl
def R3:List Int:=[6,7,10,12,13,14,15,16,20,21]
def pU (ask:Int):Int×Bool:=if ask<0∨22≤ask then(0,false) else if hasB R3 ask then(0,true) else(1,true)
theorem SL (ask:Int):ao T RB [.int ask] (.tup [.int (pU ask).1,.bool (pU ask).2]):=by
 refine .of_tree rfl Yh aDg ?_;simp[Vv,pU];by_cases h0:ask<0
 ·simp[h0]
 by_cases h1:22≤ask
 ·simp[h0,h1]
 simp[h0,h1];refine⟨_,uC R3 ask (by decide),?_⟩;cases h:hasB R3 ask<;>simp[h]
def IN:Tm:=⟨0,0,[]⟩
def ud (o:Order)(ask:Int)(k:Nat):Bool:=decide ((o.rules.getD k default).ask=ask)
def E0 (o:Order)(i:Int):Tm:=(o.rules.getD i.toNat default).term
def findF (o:Order)(ask:Int):Tm×Int:=
 if(pU ask).2=false then(IN,1) else if mL o.rules.length (ud o ask)<0 then(IN,4) else
    if(ml (E0 o (mL o.rules.length (ud o ask)))).2≠0∨(ml (E0 o (mL o.rules.length (ud o ask)))).1≠(pU ask).1 then(IN,11) else(E0 o (mL o.rules.length (ud o ask)),0)
theorem ahC {o:Order}(ho:o.OK){m:Nat}(hm:m<o.rules.length):o.rules[m].term.OK:=(ho.2.2 _ (de hm)).2
theorem R2:IN.OK:=by
 exact .mk 0 0 [] (by unfold bh;omega) (by unfold bh;omega) (by decide) (fun _ h=>by cases h)
theorem aqh {o:Order}(ho:o.OK)(ask:Int):(findF o ask).1.OK:=by
 unfold findF;split
 ·exact R2
 split
 ·exact R2
 split
 ·exact R2
 ·rename_i h _;rcases Dl o.rules.length (ud o ask) with⟨h1,h2⟩|⟨m,hm,h1,h2,h3⟩
  ·exact absurd (by rw[h1];decide) h
  ·rw[h1];simp[E0,hm];exact ahC ho hm
theorem aqf (r:Rule)(ask:Int):ao T II [ry r,.ref (.int ask)] (.bool (decide (r.ask=ask))):=by
 refine .of_tree rfl Yj aDh ?_;simp[Vx]
theorem aAs (o:Order)(ask:Int)(ho:o.OK)(hl:o.rules.length≤4294967296):ao T RC [iJ o,.int ask] (.tup [dE (findF o ask).1,.int (findF o ask).2]):=by
 refine .of_tree rfl Yi aDi ?_;simp[Vw,findF];refine⟨_,SL ask,?_⟩;cases h0:(pU ask).2
 ·simp[h0]
  try rfl
 simp[h0];refine⟨_,ajj o.rules II [.ref (.int ask)] (ud o ask) (fun k hk=>by simpa [ud,hk] using aqf o.rules[k] ask) hl,?_⟩;rcases Dl o.rules.length (ud o ask) with⟨h1,h2⟩|⟨m,hm,h1,h2,h3⟩
 ·rw[h1];simp
  try rfl
 ·rw[h1];have CT:¬((m:Int)<0):=by omega
  have Qu:o.rules[m].term.OK:=ahC ho hm;simp[hm,E0,CT];refine⟨_,ah1 _ Qu,?_⟩;by_cases h4:(ml o.rules[m].term).2=0<;>by_cases h5:(ml o.rules[m].term).1=(pU ask).1<;>simp[h4,h5]<;>try rfl
def nm (o:Order)(ask:Int)(cs:List Cell):Cell×Int:=
 if(findF o ask).2≠0 then(cV,(findF o ask).2) else
    (if(pU ask).1=0∧(mq cs (findF o ask).1).known=true then⟨true,min (max (mq cs (findF o ask).1).n 0) 20000⟩ else mq cs (findF o ask).1,0)
theorem aAq (o:Order)(ask:Int)(cs:List Cell)(ho:o.OK)(hl:o.rules.length≤4294967296):ao T ads [iJ o,.int ask,cells cs] (.tup [cH (nm o ask cs).1,.int (nm o ask cs).2]):=by
 refine .of_tree rfl akF aDe ?_;simp[Vu];refine⟨_,aAs o ask ho hl,?_⟩;have hf:(findF o ask).1.OK:=aqh ho ask;by_cases h:(findF o ask).2=0
 ·simp[h,nm];refine⟨_,aCr _ cs hf,_,SL ask,?_⟩;generalize mq cs (findF o ask).1=c;obtain⟨kn,n⟩:=c;by_cases h1:(pU ask).1=0
  ·cases kn
   ·simp[h1,cH]
   ·by_cases h2:n<0
    ·have:min (max n 0) 20000=0:=by omega
     simp[h1,cH,h2,this];rfl
    ·by_cases h3:20000<n
     ·have:min (max n 0) 20000=20000:=by omega
      simp[h1,cH,h2,h3,this];rfl
     ·have:min (max n 0) 20000=n:=by omega
      simp[h1,cH,h2,h3,this];rfl
  ·simp[h1,cH]
 ·simp[h,nm]
  try rfl
end Rm
namespace Rm
open Go Go.Proofs Cx
theorem aho (b:Bool):ao T aec [.bool b] (cH (dI b)):=by
 refine .of_tree rfl alB aEb ?_;cases b<;>simp[Wo,dI]<;>rfl
def gF (kind sign:Int)(x:Fact):Bool:=decide (x.kind=kind)&&decide (x.at_=sign)
def cn (f:File)(kind sign:Int):Cell:=match f.facts.find? (gF kind sign) with|none=>cV|some x=>dI (decide (x.n≠0))
theorem xG {α:Type}{p:α→Bool}:∀{l:List α} {k:Nat} (hk:k<l.length),p l[k]=true→(∀j (hj:j<k),p (l[j]'(by omega))=false)→l.find? p=some l[k]
 |a::l,0,hk,h,hj=>by simp at h;simp[h]
 |a::l,k+1,hk,h,hj=>by
  have h0:=hj 0 (by omega);simp at h0;simp only[M3,h0,List.getElem_cons_succ];exact xG (by simpa using hk) (by simpa using h) (fun j bQ=>by simpa using hj (j+1) (by omega))
theorem Ca {α:Type}{p:α→Bool}{l:List α}(h:∀j (hj:j<l.length),p l[j]=false):l.find? p=none:=by
 rw[uH];intro x hx;obtain⟨j,hj,rfl⟩:=nf hx;rw[h j hj];decide
theorem EV (f:File)(kind sign:Int)(hl:f.facts.length≤4294967296):ao T ad8 [cI f,.int kind,.int sign] (cH (cn f kind sign)):=by
 refine .of_tree rfl alx aD7 ?_;simp[Wl];refine .scan f.facts.length (fun k=>gF kind sign (f.facts.getD k default)=false) (fun k=>[.int k]) (fun _=>[cH cV]) ?_ (fun k hk hj ho=>?_) (fun k hk hj ho=>?_) (fun hj=>?_)
 ·simp
 ·have hw:=bx hk hl;simp[hk,gF] at ho;by_cases h1:f.facts[k].kind=kind<;>by_cases h2:f.facts[k].at_=sign
  ·exact absurd h2 (ho h1)
  all_goals simp[Uk,EH,hk,hw,h1,h2]
 ·have hw:=bx hk hl;have hf:cn f kind sign=dI (decide (f.facts[k].n≠0)):=by
   unfold cn;rw[xG hk (by simpa [hk] using ho) (fun j bQ=>by have:=hj j bQ;simpa [show j<f.facts.length by omega] using this)]
  simp[hk,gF] at ho;simp[Uk,EH,hk,hw,ho,hf];refine⟨_,aho _,?_⟩;simp
  try rfl
 ·have hf:cn f kind sign=cV:=by
   unfold cn;rw[Ca (fun j bQ=>by have:=hj j bQ;simpa [bQ] using this)]
  simp[Uk,EH,hf]
  try rfl
def gh (r:Realm)(c:Int):Int:=if aN c r.cities.length=true then(r.cities.getD c.toNat default).order else-1
theorem pO (r:Realm)(c:Int):ao T adW [bn r,.int c] (.int (gh r c)):=by
 refine .of_tree rfl ali aDU ?_;simp[V8,gh];refine⟨_,fF c r.cities.length,?_⟩;cases h:aN c r.cities.length
 ·simp[h]
 ·simp[aN] at h;have h1:c.toNat<r.cities.length:=by omega
  simp[h,h1]
def sw (day:Int)(l:List Sign):List Sign:=l.takeWhile fun s=>decide (s.day≤day)
def upA (day:Int)(l:List Act):List Act:=l.takeWhile fun s=>decide (s.day≤day)
def qd (n:Nat)(a:Alter):Bool:=decide (a.at_≤(n:Int))
def kH (n:Nat)(x:Fact):Bool:=aN x.at_ n
def eP (f:File)(day:Int):File:=
 ⟨f.bill,sw day f.signs,f.alters.filter (qd (sw day f.signs).length),upA day f.acts,f.facts.filter (kH (sw day f.signs).length)⟩
theorem MS {α:Type}(p:α→Bool):∀(l:List α),∃m,m≤l.length∧l.takeWhile p=l.take m∧(∀k (hk:k<l.length),k<m→p l[k]=true)∧(∀hk:m<l.length,p l[m]=false)
 |[]=>⟨0,by simp,by simp,fun k hk=>by simp at hk,fun hk=>by simp at hk⟩
 |a::l=>by
  by_cases h:p a=true
  ·obtain⟨m,h1,h2,h3,h4⟩:=MS p l;refine⟨m+1,by simp;omega,by simp[h,h2],fun k hk hm=>?_,fun hk=>?_⟩
   ·cases k with
    |zero=>simpa using h
    |succ k=>simpa using h3 k (by simpa using hk) (by omega)
   ·simpa using h4 (by simpa using hk)
  ·refine⟨0,by simp,by simp[h],fun k hk hm=>by omega,fun hk=>by simpa using h⟩
theorem zI {α:Type}(p:α→Bool)(l:List α){k:Nat}(hk:k<l.length):(l.take (k+1)).filter p=(l.take k).filter p++if p l[k] then[l[k]] else[]:=by
 rw[mi hk,M2]
 congr 1
 cases h:p l[k]<;>simp[h]
def Aj (b:Bill)(w x y z:D):D:=.agg [.int b.drawer,.int b.drawee,.int b.payee,.int b.sum,.int b.currency,.int b.tenor.kind,.int b.tenor.n,.int b.tenor.unit,.int b.day,.int b.city,.int b.pay,.int b.need,.int b.rate,.int b.flags,.int b.parts,w,x,y,z]
def nE {α:Type}(l:List α):D:=match l with|[]=>.list []|_=>.none
@[simp] theorem aJ5 {α:Type}:nE ([]:List α)=.list []:=rfl
@[simp] theorem aJ4 {α:Type}(l:List α)(x:α):nE (l++[x])=.none:=by cases l<;>rfl
theorem ahn (f:File)(day:Int)(h1:f.signs.length≤4294967295)(h2:f.acts.length≤4294967295)(h3:f.alters.length≤4294967295)(h4:f.facts.length≤4294967295):ao T ad7 [cI f,.int day] (cI (eP f day)):=by
 refine .of_tree rfl alw aD6 ?_;simp[Wk];obtain⟨m,hm,hS,hS1,xP⟩:=MS (fun s:Sign=>decide (s.day≤day)) f.signs;obtain⟨n,hn,hA,hA1,hA2⟩:=MS (fun s:Act=>decide (s.day≤day)) f.acts;refine aY.forRounds m (fun k=>[.int k]) (fun k=>[signs (f.signs.take k),Aj f.bill (nE (f.signs.take k)) (.list []) (.list []) (.list [])]) ?_ (fun k hk=>?_) ?_
 ·simp[Aj,signs]
  try rfl
 ·have bz:k<f.signs.length:=by omega
  have hw:=bx bz (by omega);have hd:=hS1 k bz hk;simp at hd;have fq:¬day<f.signs[k].day:=by omega
  have hle:(k:Int)+1≤4294967296:=by omega
  have ht:=mi bz;rw[ht];have hlen:(f.signs.take k).length=k:=by simp;omega
  generalize f.signs.take k=A at*;simp[Ug,ED,bz,hw,fq,hlen];exact⟨hle,by simp[signs],rfl⟩
 have hSl:(f.signs.take m).length≤4294967295:=by rw[dW];omega
 have hAt:eP f day=⟨f.bill,f.signs.take m,f.alters.filter (qd (f.signs.take m).length),f.acts.take n,f.facts.filter (kH (f.signs.take m).length)⟩:=by
  unfold eP sw upA;rw[hS,hA]
 rw[hAt];generalize f.signs.take m=S at*;have hAl:(f.acts.take n).length≤4294967295:=by rw[dW];omega
 by_cases eZ:m<f.signs.length
 case' pos=>
  have hd:=xP eZ;simp at hd;simp[Ug,ED,eZ,hd];generalize D.bool true=bb
 case' neg=>
  have CP:m=f.signs.length:=by omega
  simp[Ug,ED,eZ,CP];generalize D.bool false=bb
 all_goals
  refine aY.forRounds n (fun k=>[.int k]) (fun k=>[acts (f.acts.take k),Aj f.bill (nE S) (.list []) (nE (f.acts.take k)) (.list [])]) ?_ (fun k hk=>?_) ?_
  ·simp[acts]
  ·have bz:k<f.acts.length:=by omega
   have hw:=bx bz (by omega);have hd:=hA1 k bz hk;simp at hd;have fq:¬day<f.acts[k].day:=by omega
   have hle:(k:Int)+1≤4294967296:=by omega
   have ht:=mi bz;rw[ht];have hlen:(f.acts.take k).length=k:=by simp;omega
   generalize f.acts.take k=A at*;simp[Uh,EE,bz,hw,fq,hlen];exact⟨hle,by simp[acts],rfl⟩
  generalize f.acts.take n=A at*;by_cases iP:n<f.acts.length
  case' pos=>
   have hd:=hA2 iP;simp at hd;simp[Uh,EE,iP,hd];generalize D.bool true=bc
  case' neg=>
   have ph:n=f.acts.length:=by omega
   simp[Uh,EE,iP,ph];generalize D.bool false=bc
  all_goals
   refine aY.forRounds f.alters.length (fun k=>[.int k]) (fun k=>[Aj f.bill (nE S) (nE ((f.alters.take k).filter (qd S.length))) (nE A) (.list []),alters ((f.alters.take k).filter (qd S.length))]) ?_ (fun k hk=>?_) ?_
   ·simp[alters]
   ·have hw:=bx hk (by omega);have ht:=zI (qd S.length) f.alters hk;rw[ht];have hlen:((f.alters.take k).filter (qd S.length)).length≤k:=je (p7 _ _) (by simp;omega);generalize (f.alters.take k).filter (qd S.length)=B at*;by_cases hd:f.alters[k].at_≤(S.length:Int)
    ·simp[Ui,EF,qd,hk,hw,hd];exact⟨by omega,rfl,by simp[alters]⟩
    ·simp[Ui,EF,qd,hk,hw,hd]
   simp[Ui,EF];generalize f.alters.filter (qd S.length)=B at*;refine aY.forRounds f.facts.length (fun k=>[.int k]) (fun k=>[Aj f.bill (nE S) (nE B) (nE A) (nE ((f.facts.take k).filter (kH S.length))),facts ((f.facts.take k).filter (kH S.length))]) ?_ (fun k hk=>?_) ?_
   ·simp[facts]
   ·have hw:=bx hk (by omega);have ht:=zI (kH S.length) f.facts hk;rw[ht];have hlen:((f.facts.take k).filter (kH S.length)).length≤k:=je (p7 _ _) (by simp;omega);generalize (f.facts.take k).filter (kH S.length)=C at*;cases hd:aN f.facts[k].at_ S.length
    ·simp[Uj,EG,kH,hk,hw,hd];refine⟨_,pP _ _,?_⟩;simp[hd,hw]
    ·simp[Uj,EG,kH,hk,hw,hd];refine⟨_,pP _ _,?_⟩;simp[hd,hw];exact⟨by omega,rfl,by simp[facts]⟩
   simp[Uj,EG];rfl
end Rm
namespace Rm
open Go Go.Proofs Cx
def yB:List Int→Int
 |[]=>-1
 |x::l=>l.foldl min x
theorem ajw (x:Int)(l:List Int)(hl:l.length<4294967296):ao T ael [ints (x::l)] (.int (yB (x::l))):=by
 refine .of_tree rfl alK aEo ?_;have h0:¬((l.length:Int)+1<1):=by omega
 simp[WA,h0,yB,ints];refine aY.forRounds l.length (fun k=>[.int ((l.take k).foldl min x),.int ((k:Int)+1)]) (fun k=>[]) ?_ (fun k hk=>?_) ?_
 ·simp
 ·have hw:IntKind.i64.wrap ((k:Int)+1+1)=(k:Int)+1+1:=bU (by omega);rw[mi hk,Fv];generalize (l.take k).foldl min x=y;have ht:((k:Int)+1).toNat=k+1:=by omega
  have ah:(k:Int)+1<(l.length:Int)+1:=by omega
  simp[ahh,Mf,hk,hw,ht,ah];refine⟨by omega,?_⟩;by_cases h:l[k]<y
  ·simp[h];omega
  ·simp[h];omega
 ·simp[ahh,Mf]
def mY (f:File)(n:Nat):List Int:=if f.bill.tenor.kind=1 then((f.signs.take n).filter (fun s=>decide (s.kind=1))).map (·.day) else[]
def kZ (f:File)(n:Nat):List Int:=if f.bill.tenor.kind=1 then((f.acts.take n).filter (fun s=>decide (s.kind=1))).map (·.day) else[]
def E6 (f:File)(a:Act):Bool:=decide (f.bill.tenor.kind=0)&&decide (a.kind=2)
def ug (f:File):Int:=match f.acts.find? (E6 f) with|some a=>a.day|none=>yB (mY f f.signs.length++kZ f f.acts.length)
theorem aBE (f:File)(h1:f.signs.length≤100000)(h2:f.acts.length≤100000):ao T ad9 [cI f] (.int (ug f)):=by
 refine .of_tree rfl aly aD8 ?_;simp[Wm];refine aY.forRounds f.signs.length (fun k=>[.none,.int k]) (fun k=>[ints (mY f k)]) ?_ (fun k hk=>?_) ?_
 ·simp[mY,ints]
 ·have hw:=bx hk (by omega);have hs:mY f (k+1)=mY f k++if f.bill.tenor.kind=1∧f.signs[k].kind=1 then[f.signs[k].day] else[]:=by
   unfold mY;by_cases h:f.bill.tenor.kind=1
   ·simp only[if_pos h,zI _ _ hk,oy,h,true_and]
    congr 1
    by_cases h':f.signs[k].kind=1<;>simp[h']
   ·simp[h]
  have hlen:(mY f k).length≤k:=by
   unfold mY;split
   ·rw[iw];exact je (p7 _ _) (by simp;omega)
   ·simp
  rw[hs];generalize mY f k=A at*;by_cases hc:f.bill.tenor.kind=1∧f.signs[k].kind=1
  ·simp[Ul,EI,hk,hw,hc];exact⟨by omega,by simp[ints]⟩
  ·simp[Ul,EI,hk,hw,hc]
 ·have hlS:(mY f f.signs.length).length≤100000:=by
   unfold mY;split
   ·rw[iw];exact je (p7 _ _) (by simp;omega)
   ·simp
  have hE:ug f=match f.acts.find? (E6 f) with|some a=>a.day|none=>yB (mY f f.signs.length++kZ f f.acts.length):=rfl
  generalize mY f f.signs.length=A at*;simp[Ul,EI];refine aY.scan f.acts.length (fun k=>E6 f (f.acts.getD k default)=false) (fun k=>[.int 0,.none,.int k]) (fun k=>[ints (A++kZ f k)]) ?_ (fun k hk hj ho=>?_) (fun k hk hj ho=>?_) (fun hj=>?_)
  ·simp[kZ,ints]
  ·have hw:=bx hk (by omega);have hs:kZ f (k+1)=kZ f k++if f.bill.tenor.kind=1∧f.acts[k].kind=1 then[f.acts[k].day] else[]:=by
        unfold kZ;by_cases h:f.bill.tenor.kind=1
        ·simp only[if_pos h,zI _ _ hk,oy,h,true_and]
         congr 1
         by_cases h':f.acts[k].kind=1<;>simp[h']
        ·simp[h]
   have hlen:(kZ f k).length≤k:=by
        unfold kZ;split
        ·rw[iw];exact je (p7 _ _) (by simp;omega)
        ·simp
   rw[hs];generalize kZ f k=B at*;simp[E6,hk] at ho;by_cases hc:f.bill.tenor.kind=1∧f.acts[k].kind=1
   ·simp[EJ,wF,hk,hw,hc];exact⟨by omega,by simp[ints]⟩
   ·have hn:¬(f.bill.tenor.kind=0∧f.acts[k].kind=2):=fun h=>ho h.1 h.2;simp[EJ,wF,hk,hw,hc,hn]
  ·have hf:ug f=f.acts[k].day:=by
        rw[hE,xG hk (by simpa [hk] using ho) (fun j bQ=>by have:=hj j bQ;simpa [show j<f.acts.length by omega] using this)]
   simp[E6,hk] at ho;simp[EJ,wF,hk,ho,hf]
  ·have hf:ug f=yB (A++kZ f f.acts.length):=by
        rw[hE,Ca (fun j bQ=>by have:=hj j bQ;simpa [bQ] using this)]
   have hlA:(kZ f f.acts.length).length≤100000:=by
        unfold kZ;split
        ·rw[iw];exact je (p7 _ _) (by simp;omega)
        ·simp
   rw[hf];have hL:(A++kZ f f.acts.length).length≤200000:=by rw[kD];omega
   generalize A++kZ f f.acts.length=L at*;cases L with
   |nil=>simp[EJ,wF,yB,ints]
   |cons x l=>
    have aJ:¬((l.length:Int)+1=0):=by omega
    simp[EJ,wF,aJ];exact ajw x l (by simp at hL;omega)
end Rm
namespace Rm
open Go Go.Proofs Cx
def gD (g:Nat→Cell):D:=.list ((List.range 20).map fun i=>cH (g i))
theorem YR {g g':Nat→Cell}(h:∀i,i<20→g i=g' i):gD g=gD g':=by
 unfold gD
 congr 1
 exact xc fun i hi=>by rw[h i (by simpa using hi)]
theorem YS (g:Nat→Cell)(k:Nat)(c:Cell):D.list ((gD g).l.set k (cH c))=gD (fun i=>if i=k then c else g i):=by
 unfold gD
 congr 1
 show((List.range 20).map fun i=>cH (g i)).set k (cH c)=_;apply List.ext_getElem
 ·simp
 ·intro i h1 h2;simp at h2;rw[List.getElem_set];by_cases h:k=i
  ·simp[h]
  ·have h':¬i=k:=fun e=>h e.symm;simp[h,h']
@[simp] theorem aId (g:Nat→Cell):(gD g).l.length=20:=by
  show((List.range 20).map fun i=>cH (g i)).length=20;simp
theorem FU (g:Nat→Cell){k:Nat}(hk:k<20):(gD g).l[k]?.getD D.none=cH (g k):=by
 show((List.range 20).map fun i=>cH (g i))[k]?.getD D.none=cH (g k);simp[hk]
theorem amD (g:Nat→Cell){k:Nat}(hk:k<(gD g).l.length):(gD g).l[k]=cH (g k):=by
 have h:=FU g (k:=k) (by simpa using hk);rw[bH hk] at h;exact h
theorem amF (g:Nat→Cell)(k:Nat)(c:Cell):(gD g).l.set k (cH c)=(gD (fun i=>if i=k then c else g i)).l:=congrArg D.l (YS g k c)
theorem amE (g:Nat→Cell):D.list (gD g).l=gD g:=rfl
@[simp] theorem aLK (x:Cell)(b:Bool)(n:Int):uk (cH x) 0 (D.agg [D.bool b,D.int n])=cH ⟨b,n⟩:=_root_.id rfl
def xF {α:Type}(l:List (Int×α))(val:α→Cell)(g0:Nat→Cell)(i:Nat):Cell:=match l.find? (fun p=>decide (p.1=(i:Int))) with|some p=>val p.2|none=>g0 i
def qK {α:Type}(enc:α→D)(p:Int×α):D:=.tup [.int p.1,enc p.2]
theorem acz {α:Type}{J o:Nat}{ps cC:List Nat}{a:PC}{ρ:Env}{Q:Out→Prop}(l:List (Int×α))(enc:α→D)(val:α→Cell)(g0:Nat→Cell)
 (nd:∀p q,p∈l→q∈l→p.1=q.1→p=q) (UE:∀p,p∈l→0≤p.1) (he:ρ.o J=.tup [.list [],.map (l.map fun p=>(.int p.1,enc p.2))]) (h0:ρ.o o=gD g0)
 (step:∀p,p∈l→∀g done,aP T (pR [o] a) ((ρ.put ps (cC.map (qK enc p).tget) [o] [gD g]).setO J (.tup [.list (done++[qK enc p]),.map (l.map fun p=>(.int p.1,enc p.2))])) (fun y=>∃ρ',y=.next ρ'∧ρ'.o o=.list ((gD g).l.set p.1.toNat (cH (val p.2)))))
 (last:Q (.next (ρ.put [] [] [o] [gD (xF l val g0)]))):aY T (.meach J ps cC [o] a) ρ Q:=by
 have mF:gO (.map (l.map fun p=>((D.int p.1,enc p.2):D×D)))=l.map (qK enc):=by
  simp[gO,qK]
 refine .meachR _ he (fun done vo=>∃g:Nat→Cell,vo=[gD g]∧(∀p,p∈l→qK enc p∈done→g p.1.toNat=val p.2)∧∀i:Nat,(∀p,p∈l→qK enc p∈done→p.1≠i)→g i=g0 i) ⟨g0,by simp[h0],(fun p _ h=>by cases h),fun i _=>rfl⟩ (fun done x rest vo hp ⟨g,hv,nA,gq⟩=>?_) ⟨_,fun done hp vo ⟨g,hv,nA,gq⟩=>?_,last⟩
 ·subst hv;rw[mF] at hp;have hx:x∈l.map (qK enc):=hp.subset (by simp);obtain⟨p,eL,rfl⟩:=ej.mp hx;refine xf _ (fun y ⟨ρ',e,ho⟩=>⟨ρ',e,fun i=>if i=p.1.toNat then val p.2 else g i,by simp[ho,YS],fun q hq Qe=>?_,fun i hi=>?_⟩) (step p eL g done)
  ·have Qf:=UE q hq;have po:=UE p eL;by_cases h:q.1=p.1
   ·rw[nd q p hq eL h];simp
   ·show(if q.1.toNat=p.1.toNat then val p.2 else g q.1.toNat)=val q.2;rw[if_neg (by omega)];rcases dj.mp Qe with h1|h1
    ·exact nA q hq h1
    ·simp[qK] at h1;exact absurd h1.1 h
  ·have po:=UE p eL;have cZ:=hi p eL (by simp);show(if i=p.1.toNat then val p.2 else g i)=g0 i;rw[if_neg (by omega)];exact gq i fun q hq Qe=>hi q hq (by simp[Qe])
 ·rw[hv,mF] at*
  congr 1
  refine YR fun i hi=>?_;unfold xF;cases hf:l.find? (fun p=>decide (p.1=(i:Int))) with
  |some p=>
   have eL:=xd hf;have Ie:p.1=(i:Int):=by simpa using M4 hf
   have:=nA p eL (hp.symm.subset (List.mem_map_of_mem eL));simp only;rw[←this,Ie];rfl
  |none=>
   refine gq i fun p eL _=>?_;have:=uH.mp hf p eL;simpa using this
@[simp] theorem aKs (a b:Int):ed (D.int a) (D.int b)=decide (a=b):=by
  show((a==b)&&true)=decide (a=b);rw[Bool.and_true];by_cases h:a=b<;>simp[h]
def Cf (n k:Int):Bool:=decide (dp .and .i64 n k≠0)
def vO (s:Sign)(due:Int):Int:=if due=-1 then 0 else s.day-due
def Nq (f:File)(sign:Int):Bool:=(List.range f.alters.length).any fun k=>decide ((f.alters.getD k default).at_≤sign)
def hH (c:Case):Int:=if c.holder<0 then 0 else c.holder
def mW (c:Case)(s:Sign):List (Int×Int):=[(0,c.file.bill.sum),(1,c.file.bill.parts),(2,c.file.bill.tenor.kind),(3,c.file.bill.rate),(4,s.kind),(5,c.defence),(6,vO s c.due)]
def nZ (r:Realm)(c:Case)(s:Sign):List (Int×Bool):=[(7,Cf c.file.bill.flags 1),(8,decide (c.file.bill.payee=-1)),(9,Cf c.file.bill.flags 4),(10,Cf c.file.bill.flags 2),(11,decide (gh r c.file.bill.city≠gh r c.file.bill.pay)),(12,Nq c.file c.sign),(13,Cf s.flags 1),(14,decide (0<vO s c.due))]
def qp (r:Realm)(c:Case)(s:Sign):List Cell:=
 (mW c s).map (fun p=>⟨true,p.2⟩)++(nZ r c s).map (fun p=>dI p.2)++
    [cn c.file 0 c.sign,cn c.file 1 c.sign,cn c.file 2 c.sign,cn c.file 3 (hH c),cn c.file 4 (hH c)]
@[simp] theorem aHN (x:Case):j0 19 (dO x)=cI x.file:=_root_.id rfl
@[simp] theorem aHL (x:Case):j0 15 (dO x)=dN x.file.bill:=_root_.id rfl
@[simp] theorem aHM (x:File):j0 15 (cI x)=dN x.bill:=_root_.id rfl
def lE (c:Case):Bool:=aN c.sign c.file.signs.length&&decide (-1≤c.holder)&&decide (hH c<c.file.signs.length)&&(decide (c.due=-1)||aN c.due 100001)
def dV (r:Realm)(c:Case):List Cell:=if lE c=true∧aN (c.file.signs.getD c.sign.toNat default).day 100001=true then qp r c (c.file.signs.getD c.sign.toNat default) else[]
theorem aBF (r:Realm)(c:Case)(h2:c.file.facts.length≤100000)(h3:c.file.alters.length≤100000):ao T aea [bn r,dO c] (cells (dV r c)):=by
 refine .of_tree rfl alz aEa ?_;cases hs:aN c.sign c.file.signs.length
 ·have hv:dV r c=[]:=by unfold dV lE;rw[hs];simp
  rw[hv];simp[ur];refine⟨_,pP _ _,?_⟩;simp[hs];rfl
 by_cases hh:c.holder< -1
 ·have hv:dV r c=[]:=by unfold dV lE;rw[hs];simp;intros;omega
  rw[hv];simp[ur,hh];exact⟨⟨_,pP _ _⟩,rfl⟩
 by_cases hm:(c.file.signs.length:Int)≤hH c
 ·have hv:dV r c=[]:=by unfold dV lE;rw[hs];simp;intros;omega
  rw[hv];unfold hH at hm;simp[ur,hm];exact⟨⟨_,pP _ _⟩,rfl⟩
 by_cases hd:c.due≠-1∧aN c.due 100001=false
 ·have hv:dV r c=[]:=by unfold dV lE;rw[hs];simp[hd]
  rw[hv];unfold hH at hm;obtain⟨bt,cT⟩:=hd;simp[ur,hh,hm,bt];refine⟨_,pP _ _,?_⟩;simp[hs,hh,hm,bt];refine⟨_,pP _ _,?_⟩;simp[hs,hh,hm,bt,cT];rfl
 have hcb:lE c=true:=by
  unfold lE;rw[hs];simp;refine⟨⟨by omega,by omega⟩,?_⟩;by_cases h:c.due=-1
  ·exact .inl h
  ·right;cases hb:aN c.due 100001
   ·exact absurd ⟨h,hb⟩ hd
   ·rfl
 have hlen:c.sign.toNat<c.file.signs.length:=by simp[aN] at hs;omega
 have eB:0≤c.sign∧c.sign<(c.file.signs.length:Int):=by simpa [aN] using hs
 obtain⟨s,vB⟩:∃s:Sign,s=c.file.signs[c.sign.toNat]:=⟨_,rfl⟩
 have rL:c.file.signs.getD c.sign.toNat default=s:=by rw[vB];simp[hlen]
 have hv:dV r c=if aN s.day 100001=true then qp r c s else[]:=by
  unfold dV;rw[rL,hcb];simp
 rw[hv];unfold hH at hm;by_cases CA:c.due=-1
 case' pos=>
  have aaS:(c.due=-1)=True:=eq_true CA;simp[ur,hh,hm,aaS];refine⟨_,pP _ _,?_⟩;simp[hs,hh,hm,aaS,hlen,←vB,eB]
 case' neg=>
  have Cw:aN c.due 100001=true:=by
   cases hb:aN c.due 100001
   ·exact absurd ⟨CA,hb⟩ hd
   ·rfl
  simp[ur,hh,hm,CA];refine⟨_,pP _ _,?_⟩;simp[hs,hh,hm,CA];refine⟨_,pP _ _,?_⟩;simp[hs,hh,hm,CA,Cw,hlen,←vB,eB]
 all_goals
  refine⟨_,pP _ _,?_⟩;cases HJ:aN s.day 100001
  ·simp[HJ];rfl
  simp[HJ,kl];refine acz (mW c s) D.int (fun n=>⟨true,n⟩) (fun _=>cV) ?_ ?_ ?_ ?_ (fun p hp g done=>?_) ?_
  ·intro p q hp hq h;simp[mW] at hp hq;rcases hp with rfl|rfl|rfl|rfl|rfl|rfl|rfl<;>rcases hq with rfl|rfl|rfl|rfl|rfl|rfl|rfl<;>first|rfl|(simp at h)
  ·intro p hp;simp[mW] at hp;rcases hp with rfl|rfl|rfl|rfl|rfl|rfl|rfl<;>simp
  ·have Px:(if c.due=-1 then(0:Int) else IntKind.i64.wrap (s.day-c.due))=vO s c.due:=by
        unfold vO;by_cases h:c.due=-1
        ·simp[h]
        ·have Cw:aN c.due 100001=true:=by
          cases hb:aN c.due 100001
          ·exact absurd ⟨h,hb⟩ hd
          ·rfl
         simp[aN] at Cw HJ;rw[if_neg h,if_neg h];exact bU (by omega)
   simp[mW,kl,hlen,←vB];rw[←Px];by_cases h:c.due=-1<;>simp[h]
  ·simp[gD];rfl
  ·have hr:0≤p.1∧p.1<20:=by
        simp[mW] at hp;rcases hp with rfl|rfl|rfl|rfl|rfl|rfl|rfl<;>simp
   have hk:p.1.toNat<20:=by omega
   simp[aBp,Um,qK,FU g hk];exact hr
  have auY:∀k (hk:k<c.file.alters.length),ao T aeb (oR c.file.alters[k]::[.ref (dO c)]) (.bool (decide ((c.file.alters.getD k default).at_≤c.sign))):=fun k hk=>by
   refine .of_tree rfl alA aD9 ?_;simp[Wn,hk]
  simp;refine⟨_,aje c.file.alters _ _ _ auY (by omega),_,pO r _,_,pO r _,?_⟩;have Px:(if c.due=-1 then(0:Int) else IntKind.i64.wrap (s.day-c.due))=vO s c.due:=by
   unfold vO;by_cases h:c.due=-1
   ·simp[h]
   ·have Cw:aN c.due 100001=true:=by
     cases hb:aN c.due 100001
     ·exact absurd ⟨h,hb⟩ hd
     ·rfl
    simp[aN] at Cw HJ;rw[if_neg h,if_neg h];exact bU (by omega)
  have Pw:cells (qp r c s)=gD (fun i=>if i=15 then cn c.file 0 c.sign else if i=16 then cn c.file 1 c.sign else if i=17 then cn c.file 2 c.sign else if i=18 then cn c.file 3 (hH c) else if i=19 then cn c.file 4 (hH c) else xF (nZ r c s) dI (xF (mW c s) (fun n=>⟨true,n⟩) (fun _=>cV)) i):=by
   rfl
  generalize xF (mW c s) (fun n=>(⟨true,n⟩:Cell)) (fun _=>cV)=g1 at*;refine acz (nZ r c s) D.bool dI g1 ?_ ?_ ?_ ?_ (fun p hp g done=>?_) ?_
  ·intro p q hp hq h;simp[nZ] at hp hq;rcases hp with rfl|rfl|rfl|rfl|rfl|rfl|rfl|rfl<;>rcases hq with rfl|rfl|rfl|rfl|rfl|rfl|rfl|rfl<;>first|rfl|(simp at h)
  ·intro p hp;simp[nZ] at hp;rcases hp with rfl|rfl|rfl|rfl|rfl|rfl|rfl|rfl<;>simp
  ·simp[nZ,kl,hlen,←vB,Cf];rw[←Px];by_cases h:c.due=-1<;>simp[h,Nq]
  ·simp
  ·have hr:0≤p.1∧p.1<20:=by
        simp[nZ] at hp;rcases hp with rfl|rfl|rfl|rfl|rfl|rfl|rfl|rfl<;>simp
   have hk:p.1.toNat<20:=by omega
   simp[aBq,Un,qK,FU g hk];refine⟨_,aho _,?_⟩;simp[FU g hk];exact hr
  simp;generalize xF (nZ r c s) dI g1=g2 at*;have hho:(if c.holder<0 then D.int 0 else D.int c.holder)=D.int (hH c):=by
   unfold hH;split<;>rfl
  rw[hho];refine⟨_,EV _ _ _ (by omega),_,EV _ _ _ (by omega),_,EV _ _ _ (by omega),_,EV _ _ _ (by omega),_,EV _ _ _ (by omega),?_⟩;rw[Pw];simp only[amD,aCi,amF,amE];refine YR fun i hi=>?_;by_cases Hp:i=15
  ·subst Hp;simp
  by_cases Hq:i=16
  ·subst Hq;simp
  by_cases Hr:i=17
  ·subst Hr;simp
  by_cases Hs:i=18
  ·subst Hs;simp
  by_cases Ht:i=19
  ·subst Ht;simp
  simp[Hp,Hq,Hr,Hs,Ht]
end Rm
namespace Rm
open Go Go.Proofs Cx
def Ja (n:Nat)(x:Int):Bool:=decide (x<0)||decide ((n:Int)≤x)
def lF (r:Realm)(a q:Int)(l:List Int):Bool:=
 !(decide (a<0)||decide ((r.orders.length:Int)≤a)||decide (q<0)||decide (22≤q)||decide (l.length≠5))&& !((List.range l.length).any fun k=>Ja r.orders.length (l.getD k 0))
theorem aqi (x n:Int):ao T Rz [.int x,.ref (.int n)] (.bool (decide (x<0)||decide (n≤x))):=by
 refine .of_tree rfl akx aC3 ?_;by_cases h:x<0<;>simp[Vm,h]
theorem Z8 (r:Realm)(a q:Int)(l:List Int)(hl:l.length≤100000):ao T adk [bn r,.int a,.int q,ints l] (.bool (lF r a q l)):=by
 refine .of_tree rfl akw aC4 ?_;by_cases h1:a<0
 ·simp[uq,lF,h1]
 by_cases h2:(r.orders.length:Int)≤a
 ·simp[uq,lF,h1,h2]
 by_cases h3:q<0
 ·simp[uq,lF,h1,h2,h3]
 by_cases h4:22≤q
 ·simp[uq,lF,h1,h2,h3,h4]
 by_cases h5:(l.length:Int)=5
 ·have Hv:l.length=5:=by omega
  simp[uq,h1,h2,h3,h4,Hv];refine⟨_,ajf l Rz [.ref (.int r.orders.length)] (fun k=>Ja r.orders.length (l.getD k 0)) (fun k hk=>by simpa [Ja,hk] using aqi l[k] r.orders.length) (by omega),?_⟩;simp only[lF,Hv];simp[h1,h2,h3,h4]
 ·have Hv:¬l.length=5:=by omega
  simp[uq,lF,h1,h2,h3,h4,Hv];intro h;omega
theorem OS {r:Realm}{a q:Int}{l:List Int}(h:lF r a q l=true):(0≤a∧a<r.orders.length)∧l.length=5∧(∀x,x∈l→0≤x∧x<r.orders.length)∧∀b:Int,0≤b→b<r.orders.length→lF r b q l=true:=by
 unfold lF at h ⊢;rw[ar] at h;obtain⟨h1,h2⟩:=h;simp at h1;refine⟨by omega,h1.2,fun x hx=>?_,fun b jm dx=>?_⟩
 ·obtain⟨k,hk,rfl⟩:=nf hx;simp[Ja] at h2;have:=h2 k hk;simp[hk] at this;omega
 ·rw[h2];simp;omega
def zZ (r:Realm):Prop:=∀o,o∈r.orders→o.choices.length≤100000∧∀ch,ch∈o.choices→0≤ch.by_∧ch.by_<5
def vP (q:Int)(ch:Choice):Bool:=decide (ch.ask=q)&&decide (ch.by_≠0)
def mR (r:Realm)(a:Int):Order:=r.orders.getD a.toNat default
def fM (r:Realm)(a q:Int)(l:List Int):Int×Bool:=
 (match(mR r a).choices.find? (vP q) with|some ch=>l.getD ch.by_.toNat 0|none=>a,match(mR r a).choices.find? (vP q) with|some ch=>ch.whole|none=>false)
theorem XE (r:Realm)(oY:zZ r)(a q:Int)(l:List Int)(hl:l.length≤100000)(hf:lF r a q l=true):
 ao T adj [bn r,.int a,.int q,ints l] (.tup [.int (fM r a q l).1,.bool (fM r a q l).2])∧0≤(fM r a q l).1∧(fM r a q l).1<r.orders.length:=by
 obtain⟨ha,hl5,hx,_⟩:=OS hf;have xU:a.toNat<r.orders.length:=by omega
 obtain⟨bl,lH⟩:=oY _ (de xU);obtain⟨o,ho⟩:∃o,o=r.orders[a.toNat]:=⟨_,rfl⟩
 rw[←ho] at bl lH;have P0:mR r a=o:=by rw[ho];simp[mR,xU]
 unfold fM;rw[P0];refine⟨?_,?_⟩
 ·refine .of_tree rfl akv aC2 ?_;simp[Vl];refine⟨_,Z8 r a q l hl,?_⟩;simp[hf,xU,←ho,ha];refine aY.scan o.choices.length (fun k=>vP q (o.choices.getD k default)=false) (fun k=>[.int 0,.bool false,.int k]) (fun _=>[]) ?_ (fun k hk hj aH=>?_) (fun k hk hj aH=>?_) (fun hj=>?_)
  ·simp
  ·have hw:=bx hk (by omega);have hn:¬(o.choices[k].ask=q∧¬o.choices[k].by_=0):=by simpa [vP,hk] using aH
   simp[TK,D8,xU,←ho,hk,hw,hn]
  ·have nz:=xG hk (by simpa [hk] using aH) (fun j bQ=>by have:=hj j bQ;simpa [show j<o.choices.length by omega] using this);rw[nz];have hc:o.choices[k].ask=q∧¬o.choices[k].by_=0:=by simpa [vP,hk] using aH
   have hb:=lH _ (de hk);have HF:o.choices[k].by_.toNat<l.length:=by omega
   simp[TK,D8,xU,←ho,hk,hc,ints,HF];omega
  ·have nz:=Ca (l:=o.choices) (p:=vP q) (fun j bQ=>by have:=hj j bQ;simpa [bQ] using this);rw[nz];simp[TK,D8,xU,←ho]
 ·cases nz:o.choices.find? (vP q) with
  |none=>exact ha
  |some ch=>
   have hb:=lH _ (xd nz);have HF:ch.by_.toNat<l.length:=by omega
   simp[HF];exact hx _ (de HF)
theorem S7:∀(N:Nat) (l:List Int),l.Nodup→(∀x,x∈l→0≤x∧x<(N:Int))→l.length≤N
 |0,l,hn,h=>by
  cases l with
  |nil=>simp
  |cons a l=>have:=h a (by simp);omega
 |N+1,l,hn,h=>by
  by_cases hm:(N:Int)∈l
  ·have h1:=S7 N (l.erase (N:Int)) (hn.erase _) (fun x hx=>by
    have db:=(hn.mem_erase_iff).mp hx;have:=h x db.2;have aJ:=db.1;omega)
   rw[List.length_erase_of_mem hm] at h1;omega
  ·have h1:=S7 N l hn (fun x hx=>by
    have:=h x hx;have aJ:x≠(N:Int):=fun e=>hm (e▸hx);omega)
   omega
def dg (l:List Int):Int:=l.getD (l.length-1) 0
def kg (r:Realm)(q:Int)(l:List Int):Nat→List Int→List Int×Int
 |0,p=>(p,0)
 |n+1,p=>
  if(fM r (dg p) q l).1=dg p then(p,0)
  else if(fM r (dg p) q l).2=false∨(hasB p (fM r (dg p) q l).1=true∧(mR r (fM r (dg p) q l).1).accepts=true) then(p++[(fM r (dg p) q l).1],0)
  else if hasB p (fM r (dg p) q l).1=true then(p++[(fM r (dg p) q l).1],12)
  else kg r q l n (p++[(fM r (dg p) q l).1])
theorem QR (r:Realm)(q:Int)(l:List Int)(n:Nat)(p:List Int):kg r q l (n+1) p=
 if(fM r (dg p) q l).1=dg p then(p,0)
 else if(fM r (dg p) q l).2=false∨(hasB p (fM r (dg p) q l).1=true∧(mR r (fM r (dg p) q l).1).accepts=true) then(p++[(fM r (dg p) q l).1],0)
 else if hasB p (fM r (dg p) q l).1=true then(p++[(fM r (dg p) q l).1],12)
 else kg r q l n (p++[(fM r (dg p) q l).1]):=rfl
def ib (r:Realm)(a q:Int)(l:List Int):List Int×Int:=if lF r a q l=true∧l.getD 0 0=a then kg r q l r.orders.length [a] else([],1)
theorem ajq (r:Realm)(oY:zZ r)(hn:r.orders.length≤100000)(a q:Int)(l:List Int)(hl:l.length≤100000):ao T adi [bn r,.int a,.int q,ints l] (.tup [ints (ib r a q l).1,.int (ib r a q l).2]):=by
 refine .of_tree rfl aku aC1 ?_;simp[Vk];refine⟨_,Z8 r a q l hl,?_⟩;cases hf:lF r a q l
 ·simp[ib,hf];rfl
 obtain⟨ha,hl5,hx,xS⟩:=OS hf;have h0:0<l.length:=by omega
 by_cases vm:l[0]=a
 ·have hE:ib r a q l=kg r q l r.orders.length [a]:=by unfold ib;rw[if_pos ⟨hf,by simp[h0,vm]⟩]
  rw[hE];simp[h0,vm,ints];refine aY.forLoop (α:=Nat×List Int) (fun s vr vo=>vr=[.list [],.int 0,.none]∧vo=[ints s.2]∧s.2.Nodup∧(∀x,x∈s.2→0≤x∧x<(r.orders.length:Int))∧s.2≠[]∧s.1+s.2.length=r.orders.length+1∧kg r q l s.1 s.2=kg r q l r.orders.length [a]) (fun s=>s.1) (r.orders.length,[a]) ?_ ?_
  ·simp[ints];exact ha
  ·rintro⟨n,p⟩ vr vo ⟨rfl,rfl,bo,bI,aJ,hlen,CM⟩;simp only at*;have eL:p.length≤r.orders.length:=S7 _ p bo bI;have avt:0<p.length:=M6.mpr aJ;obtain⟨m,rfl⟩:∃m,n=m+1:=⟨n-1,by omega⟩
   have ah:p.length-1<p.length:=by omega
   have ka:dg p=p[p.length-1]:=by simp[dg,ah]
   have vn:=bI _ (de ah);rw[←ka] at vn;obtain⟨O9,gr,gu⟩:=XE r oY (dg p) q l hl (xS _ vn.1 vn.2);have PH:((p.length:Int)-1).toNat=p.length-1:=by omega
   have QE:IntKind.i64.wrap ((p.length:Int)-1)=(p.length:Int)-1:=bU (by omega);rw[←CM,QR];obtain⟨L,hL⟩:∃L,L=fM r (dg p) q l:=⟨_,rfl⟩
   rw[←hL] at O9 gr gu ⊢;obtain⟨to,whole⟩:=L;simp only at O9 gr gu;have vE:to.toNat<r.orders.length:=by omega
   have P0:mR r to=r.orders[to.toNat]:=by simp[mR,vE]
   simp only[P0];simp[aBn,TJ,QE,PH,ah,←ka,ints];refine⟨by omega,_,O9,?_⟩;by_cases h1:to=dg p
   ·simp[h1]
   simp[h1];refine⟨_,uC p to (by omega),by omega,?_⟩;cases whole
   ·simp
   cases h2:hasB p to
   ·have cO:to∉p:=fun hm=>by
     have:hasB p to=true:=by simp[hasB,hm]
     rw[h2] at this;cases this
    simp[h2];refine⟨m,by omega,p++[to],by simp,?_,?_,by simp,by simp;omega,rfl⟩
    ·exact Ae.mpr ⟨bo,by simp,fun x hx y hy=>by simp at hy;subst hy;exact fun e=>cO (e▸hx)⟩
    ·intro x hx;rcases dj.mp hx with h|h
     ·exact bI x h
     ·simp at h;subst h;exact⟨gr,gu⟩
   ·cases h3:r.orders[to.toNat].accepts<;>simp[h2,h3,vE]<;>omega
 ·have hE:ib r a q l=([],1):=by unfold ib;rw[if_neg (by simp[h0,vm])]
  rw[hE];simp[h0,vm];rfl
end Rm
namespace Rm
open Go Go.Proofs Cx
def ei (f:File)(i:Int):Sign:=f.signs.getD i.toNat default
def kP (r:Realm)(ay:Int)(c:Case):List Int:=[ay,gh r (ei c.file c.sign).city,gh r c.file.bill.pay,gh r c.file.bill.city,gh r (r.firms.getD (ei c.file c.sign).who.toNat default).city]
def oI (r:Realm)(ay:Int)(c:Case):Prop:=(ei c.file c.sign).who<0∨(r.firms.length:Int)≤(ei c.file c.sign).who∨ay<0∨(r.orders.length:Int)≤ay
instance (r:Realm) (ay:Int) (c:Case):Decidable (oI r ay c):=by unfold oI;infer_instance
def gi (r:Realm)(ay:Int)(c:Case):List Int:=if oI r ay c then[] else if hasB (kP r ay c) (-1)=true then[] else kP r ay c
@[simp] theorem aH5 (r:Realm)(x:Int):xl (bn r) x=gh r x:=by
  unfold xl gh aN;by_cases h:0≤x∧x<(r.cities.length:Int)
  ·have hx:x.toNat<r.cities.length:=by omega
   rw[if_pos (by simpa using h),if_pos (by simpa using h)];simp[hx]
  ·rw[if_neg (by simpa using h),if_neg (by simpa using h)]
theorem agm (r:Realm)(ay:Int)(c:Case)(h1:c.sign.toNat<c.file.signs.length):S9 [bn r,.int ay,dO c]=ints (gi r ay c):=by
 have hs:ei c.file c.sign=c.file.signs[c.sign.toNat]:=by simp[ei,h1]
 unfold S9 gi;simp[h1];by_cases hb:oI r ay c
 ·rw[if_pos (by simpa [oI,hs] using hb),if_pos hb];rfl
 ·rw[if_neg (by simpa [oI,hs] using hb),if_neg hb];have Il:(ei c.file c.sign).who.toNat<r.firms.length:=by unfold oI at hb;omega
  have abR:c.file.signs[c.sign.toNat].who.toNat<r.firms.length:=by rw[←hs];exact Il
  have jN:kP r ay c=[ay,gh r c.file.signs[c.sign.toNat].city,gh r c.file.bill.pay,gh r c.file.bill.city,gh r r.firms[c.file.signs[c.sign.toNat].who.toNat].city]:=by
   simp[kP,hs,abR]
  have cU:∀l:List Int,hasB l (-1)=true↔-1∈l:=fun l=>by simp[hasB]
  rw[jN];simp[abR];split
  ·rename_i h;rw[if_pos ((cU _).mpr (by simpa using h))];rfl
  ·rename_i h;rw[if_neg (fun h'=>h (by simpa using(cU _).mp h'))]
theorem ago (r:Realm)(ay:Int)(c:Case)(h1:0≤c.sign∧c.sign<c.file.signs.length):ao T azr [bn r,.int ay,dO c] (ints (gi r ay c)):=by
 have cE:c.sign.toNat<c.file.signs.length:=by omega
 rw[←agm r ay c cE];have hs:ei c.file c.sign=c.file.signs[c.sign.toNat]:=by simp[ei,cE]
 refine ao.of_nsl rfl aCK aCL ?_;rw[agm r ay c cE];by_cases hb:oI r ay c
 ·refine .inr ⟨by simp[gi,hb];rfl,?_⟩;have ga:=hb;simp[oI,hs] at ga;simp[MG,h1,cE]
  intros;omega
 have qs:gi r ay c=if hasB (kP r ay c) (-1)=true then[] else kP r ay c:=by unfold gi;rw[if_neg hb]
 have ga:=hb;simp[oI,hs] at ga;have hw:c.file.signs[c.sign.toNat].who.toNat<r.firms.length:=by omega
 have hC:=uC (kP r ay c) (-1) (by simp[kP]);cases hh:hasB (kP r ay c) (-1)<;>rw[hh] at hC<;>simp[kP,ints,hs,hw] at hC
 ·refine .inl ⟨(kP r ay c).map .int,by simp[kP],by rw[qs,hh];rfl,?_⟩;simp[U9,h1,cE,hw];rw[if_neg (by omega)];refine⟨_,pO r _,_,pO r _,_,pO r _,by omega,_,pO r _,_,by simpa using hC,?_⟩;simp[kP,hs,hw]
 ·refine .inr ⟨by rw[qs,hh];rfl,?_⟩;simp[MG,h1,cE,hw]
  intros
  refine⟨_,pO r _,_,pO r _,_,pO r _,by omega,_,pO r _,_,by simpa using hC,?_⟩;simp
end Rm
