/-
  Shared texts of this claim.
-/
import Derived.Test.YtipjidjopglknaaGreatDoorEAO
import Derived.Laws.Strings
import Derived.Lib.Mul64
set_option linter.unusedSimpArgs false
set_option linter.unusedVariables false
namespace Rm
open Go Go.Proofs Cx
def eg (n:Nat)(p:Nat→Bool):Bool:=(List.range n).all p
theorem Tb {n:Nat}{p:Nat→Bool}(h:∀k,k<n→p k=true):eg n p=true:=bz.2 fun k hk=>h k (bV.1 hk)
theorem acD {n k:Nat}{p:Nat→Bool}(hk:k<n)(h:p k=false):eg n p=false:=List.all_eq_false.2 ⟨k,bV.2 hk,by simp[h]⟩
theorem xn {n:Nat}{p:Nat→Bool}:eg n p=true↔∀k,k<n→p k=true:=⟨fun h k hk=>bz.1 h k (bV.2 hk),Tb⟩
def kI (n:Nat)(f:Nat→Int):Int:=(((List.range n).map f).find? fun x=>x !=0).getD 0
theorem Uv {n:Nat}{f:Nat→Int}(h:∀k,k<n→f k=0):kI n f=0:=by
 unfold kI;rw[xj.2]
 ·rfl
 ·intro x hx;obtain⟨k,hk,rfl⟩:=dP.1 hx;simp[h k (bV.1 hk)]
theorem Ut {n k:Nat}{f:Nat→Int}(hk:k<n)(hj:∀j,j<k→f j=0)(h:f k≠0):kI n f=f k:=by
 unfold kI;have e:List.range n=List.range k++k::(List.range' (k+1) (n-k-1)):=by
  rw[JQ,JQ,←E0];have:=List.range'_append_1 (s:=0) (m:=k) (n:=n-k-1+1);rw[gw] at this;rw[this];congr 1;omega
 rw[e,nO,List.find?_append,xj.2,Option.none_or,gr,List.find?_cons_of_pos (by simpa using h)]
 ·rfl
 ·intro x hx;obtain⟨j,tl,rfl⟩:=dP.1 hx;simp[hj j (bV.1 tl)]
theorem Uu {n:Nat}{f:Nat→Int}:kI n f=0↔∀k,k<n→f k=0:=by
 refine⟨fun h k=>?_,Uv⟩
 induction k using Nat.strongRecOn with
 |ind k ih=>
  intro hk;refine AG fun ay=>?_;rw[Ut hk (fun j hj=>ih j hj (by omega)) ay] at h;exact ay h
section
variable {T:cq} {id:Nat} {bo bn lr lo:List Nat} {a:PC} {ρ:Env} {Q:Out→Prop}
theorem fU (N:Nat)(p:Nat→Bool)(str fh:Nat→List D)(h0:lr.map ρ.r=str 0∧lo.map ρ.o=fh 0)
 (step:∀k,k<N→p k=true→aE T (round id bo bn lr lo a) (ρ.put lr (str k) lo (fh k)) (eO ρ id bo bn lr lo (fun vr vo=>vr=str (k+1)∧vo=fh (k+1)) Q))
 (bad:∀k,k<N→p k=false→eg N p=false→aE T (round id bo bn lr lo a) (ρ.put lr (str k) lo (fh k)) (eO ρ id bo bn lr lo (fun _ _=>False) Q))
 (last:eg N p=true→aE T (round id bo bn lr lo a) (ρ.put lr (str N) lo (fh N)) (eO ρ id bo bn lr lo (fun _ _=>False) Q)):aS T (.block id bo bn (.loop lr lo a)) ρ Q:=
 .scan N (fun k=>p k=true) str fh h0 (fun k hk _ h=>step k hk h) (fun k hk _ h=>bad k hk (by simpa using h) (acD hk (by simpa using h))) (fun h=>last (Tb h))
theorem ug (N:Nat)(f:Nat→Int)(str fh:Nat→List D)(h0:lr.map ρ.r=str 0∧lo.map ρ.o=fh 0)
 (step:∀k,k<N→f k=0→aE T (round id bo bn lr lo a) (ρ.put lr (str k) lo (fh k)) (eO ρ id bo bn lr lo (fun vr vo=>vr=str (k+1)∧vo=fh (k+1)) Q))
 (bad:∀k,k<N→f k≠0→kI N f=f k→aE T (round id bo bn lr lo a) (ρ.put lr (str k) lo (fh k)) (eO ρ id bo bn lr lo (fun _ _=>False) Q))
 (last:kI N f=0→aE T (round id bo bn lr lo a) (ρ.put lr (str N) lo (fh N)) (eO ρ id bo bn lr lo (fun _ _=>False) Q)):aS T (.block id bo bn (.loop lr lo a)) ρ Q:=
 .scan N (fun k=>f k=0) str fh h0 (fun k hk _ h=>step k hk h) (fun k hk hj h=>bad k hk h (Ut hk hj h)) (fun h=>last (Uv h))
end
theorem bC {k n:Nat}(h:k<n)(hn:n≤4294967296):IntKind.i64.wrap ((k:Int)+1)=(k:Int)+1:=cY (by omega)
theorem uy {k:Nat}(hn:k≤4294967296):IntKind.i64.wrap ((k:Int)-1)=(k:Int)-1:=cY (by omega)
def aL (i n:Int):Bool:=decide (0≤i)&&decide (i<n)
def wi (n a b:Int):Bool:=decide (a≤n)&&decide (n≤b)
theorem fF (i n:Int):ak T 105 [.int i,.int n] (.bool (aL i n)):=by
 refine .of_tree rfl (lA 15 (by kernel_rfl)) apv ?_;simp[Rj,aL];by_cases h:0≤i<;>simp[h]
theorem po (i n:Int):ak T 49 [.int i,.int n] (.bool (aL i n)):=by
 refine .of_tree rfl (lA 9 (by kernel_rfl)) apJ ?_;simp[Rw,aL];by_cases h:0≤i<;>simp[h]
theorem cJ (n a b:Int):ak T 74 [.int n,.int a,.int b] (.bool (wi n a b)):=by
 refine .of_tree rfl (lA 96 (by kernel_rfl)) ao8 ?_;simp[QU,wi];by_cases h:a≤n<;>simp[h]
theorem idx_eq {α:Type}[DecidableEq α]{l:List α}{x z:α}{k:Nat}(hk:k<l.length)(hj:∀j,j<k→l.getD j z≠x)(h:¬l.getD k z≠x):x∈l∧l.findIdx (fun y=>decide (y=x))=k:=by
 have e:l[k]=x:=by simpa [hk] using h
 refine⟨e▸cT hk,(List.findIdx_eq hk).2 ⟨by simp[e],fun j gP=>?_⟩⟩;have fN:j<l.length:=by omega
 simpa [fN] using hj j gP
theorem Wk {α:Type}[DecidableEq α]{l:List α}{x z:α}(hj:∀j,j<l.length→l.getD j z≠x):¬x∈l:=fun hm=>by
 obtain⟨j,fN,rfl⟩:=mO hm;have:=hj j fN;simp[fN] at this
def tG {α:Type}[DecidableEq α](l:List α)(x:α):Int:=if x∈l then(l.findIdx (fun y=>decide (y=x)):Nat) else-1
def hasB {α:Type}[DecidableEq α](l:List α)(x:α):Bool:=l.any fun y=>decide (y=x)
theorem LB {α:Type}[DecidableEq α]{l:List α}{x:α}:hasB l x=true↔x∈l:=by simp[hasB]
theorem U5 {α:Type}[DecidableEq α]{l:List α}{x:α}:hasB l x=false↔¬x∈l:=by rw[←LB];simp
theorem Wj {α:Type}[DecidableEq α](l:List α)(x:α):decide (0≤tG l x)=hasB l x:=by
 unfold tG;by_cases h:x∈l
 ·rw[LB.2 h];simp[h]
 ·rw[U5.2 h];simp[h]
@[simp] theorem att (a b:ByteArray):yo .eql a b=decide (a=b):=by
  simp only[yo,ByteArray.toList_eq];by_cases h:a=b
  ·subst h;simp
  ·rw[decide_eq_false h,beq_eq_false_iff_ne];intro e;have:a.data=b.data:=by rw[←sB];exact e
   exact h (by cases a;cases b;cases this;rfl)
@[simp] theorem aur (ρ:Env)(x i:PE):PE.ev ρ (.sidx x i)=.v (.int .u8 ((PE.ev ρ x).s.data.getD (PE.ev ρ i).i.toNat 0).toNat):=_root_.id rfl
@[simp] theorem auv (ρ:Env)(x i:PE):PE.ev ρ (.sok x i)=.v (.bool (decide (0≤(PE.ev ρ i).i∧(PE.ev ρ i).i<(PE.ev ρ x).s.size))):=_root_.id rfl
@[simp] theorem aw5 (a:ByteArray):(str a).s=a:=_root_.id rfl
theorem ab9 (l:List Int)(x:Int)(hl:l.length≤4294967296):ak T 124 [ints l,.int x] (.int (tG l x)):=by
 refine .of_tree rfl (lA 20 (by kernel_rfl)) apS ?_;simp[RG];refine .scan l.length (fun k=>l.getD k 0≠x) (fun k=>[.int 0,.int k]) (fun _=>[]) ?_ (fun k hk hj ho=>?_) (fun k hk hj ho=>?_) (fun hj=>?_)
 ·simp
 ·have hw:=bC hk hl;simp[hk] at ho;have dQ:¬x=l[k]:=fun e=>ho e.symm;simp[PG,Ei,hk,hw,ints,ho,dQ]
 ·obtain⟨hm,he⟩:=idx_eq hk hj ho;simp[hk] at ho;simp[PG,Ei,hk,ints,ho,tG,hm,he]
 ·have:=Wk hj;simp[PG,Ei,tG,this,ints]
theorem xd (l:List Int)(x:Int)(hl:l.length≤4294967296):ak T 81 [ints l,.int x] (.bool (hasB l x)):=by
 refine .of_tree rfl (lA 19 (by kernel_rfl)) apN ?_;simp[RA];refine⟨_,ab9 l x hl,?_⟩;have:=Wj l x;simp at this ⊢;exact this
theorem aca (l:List ByteArray)(x:ByteArray)(hl:l.length≤4294967296):ak T 215 [strs l,str x] (.int (tG l x)):=by
 refine .of_tree rfl (lA 55 (by kernel_rfl)) apT ?_;simp[RH];refine .scan l.length (fun k=>l.getD k default≠x) (fun k=>[.int 0,.int k]) (fun _=>[]) ?_ (fun k hk hj ho=>?_) (fun k hk hj ho=>?_) (fun hj=>?_)
 ·simp
 ·have hw:=bC hk hl;simp[hk] at ho;have dQ:¬x=l[k]:=fun e=>ho e.symm;simp[PH,Ej,hk,hw,strs,ho,dQ]
 ·obtain⟨hm,he⟩:=idx_eq hk hj ho;simp[hk] at ho;simp[PH,Ej,hk,strs,ho,tG,hm,he]
 ·have:=Wk hj;simp[PH,Ej,tG,this,strs]
theorem ab4 (l:List ByteArray)(x:ByteArray)(hl:l.length≤4294967296):ak T 200 [strs l,str x] (.bool (hasB l x)):=by
 refine .of_tree rfl (lA 54 (by kernel_rfl)) apO ?_;simp[RB];refine⟨_,aca l x hl,?_⟩;have:=Wj l x;simp at this ⊢;exact this
def nD (l:List Int)(a b:Int)(k:Nat):Bool:=wi (l.getD k 0) a b&&(k==0||decide (l.getD (k-1) 0<l.getD k 0))
def rising (l:List Int)(a b:Int):Bool:=eg l.length (nD l a b)
theorem Ep (l:List Int)(a b:Int)(hl:l.length≤4294967296):ak T 164 [ints l,.int a,.int b] (.bool (rising l a b)):=by
 refine .of_tree rfl (lA 59 (by kernel_rfl)) apB ?_;simp[Rp];refine fU l.length (nD l a b) (fun k=>[.bool false,.int k]) (fun _=>[]) ?_ (fun k hk ho=>?_) (fun k hk ho hb=>?_) (fun hj=>?_)
 ·simp
 ·have hw:=bC hk hl;simp[nD,wi,hk] at ho;obtain⟨⟨h1,h2⟩,h3⟩:=ho;have cB:¬l[k]<a:=by omega
  have gz:¬b<l[k]:=by omega
  by_cases gQ:0<k
  ·have bD:k-1<l.length:=by omega
   have fA:IntKind.i64.wrap ((k:Int)-1)=((k-1:Nat):Int):=by rw[uy (by omega)];omega
   have gd:¬l[k]≤l[k-1]:=by
        rcases h3 with h3|h3
        ·omega
        ·simp[bD] at h3;omega
   simp[Ac,tZ,hk,hw,fA,ints,cB,gz,gd,gQ,bD]
  ·simp[Ac,tZ,hk,hw,ints,cB,gz,gQ]
 ·have hf:rising l a b=false:=hb;simp[nD,wi,hk] at ho;by_cases h1:l[k]<a
  ·simp[Ac,tZ,hk,ints,h1,hf]
  by_cases h2:b<l[k]
  ·simp[Ac,tZ,hk,ints,h1,h2,hf]
  have h3:=ho (by omega) (by omega);have gQ:0<k:=by omega
  have bD:k-1<l.length:=by omega
  have fA:IntKind.i64.wrap ((k:Int)-1)=((k-1:Nat):Int):=by rw[uy (by omega)];omega
  have gd:=h3.2;simp[bD] at gd;simp[Ac,tZ,hk,fA,ints,h1,h2,gd,gQ,bD,hf]
 ·have hf:rising l a b=true:=hj;simp[Ac,tZ,hf]
def C5 (c:Int):Bool:=wi c 97 122||wi c 65 90
def wh (i:Nat)(c:Int):Bool:=C5 c||(i !=0&&(decide (c=95)||wi c 48 57))
def A6 (s:ByteArray)(k:Nat):Int:=((s.data.toList.getD k 0).toNat:Nat)
def iM (s:ByteArray):Bool:=decide (1≤s.size)&&decide (s.size≤20)&&eg s.size (fun k=>wh k (A6 s k))
theorem Fe {s:ByteArray}{k:Nat}(h:k<s.data.size):(s.data[k].toNat:Int)=A6 s k:=by
 unfold A6;rw[aG,bq (by simpa using h)];rfl
theorem aaR {s:ByteArray}:s=⟨#[]⟩↔s.size=0:=by
 constructor
 ·rintro rfl;rfl
 ·intro h;cases s with|mk d=>congr;exact JF h
theorem ank (s:ByteArray):ak T 199 [str s] (.bool (iM s)):=by
 refine .of_tree rfl (lA 53 (by kernel_rfl)) apw ?_;simp[Rk];by_cases h0:s=⟨#[]⟩
 ·have hn:iM s=false:=by simp[iM,aaR.1 h0]
  rw[hn];simp[h0]
 by_cases h1:(20:Int)<s.size
 ·have cB:¬s.size≤20:=by omega
  simp[h0,h1,iM,cB]
 have hz:1≤s.size:=by
  have:s.size≠0:=fun e=>h0 (aaR.2 e);omega
 have cB:s.size≤20:=by omega
 simp[h0,h1];refine⟨by omega,fU s.size (fun k=>wh k (A6 s k)) (fun k=>[.bool false,.int k]) (fun _=>[]) ?_ (fun k hk ho=>?_) (fun k hk ho hb=>?_) (fun hj=>?_)⟩
 ·simp
 ·have hw:=bC hk (by omega);have bm:k<s.data.size:=hk;have hg:=Fe bm;simp[wh,C5,wi] at ho;simp[Po,D3,hk,bm,hw,hg];omega
 ·have bm:k<s.data.size:=hk;have hg:=Fe bm;have hn:iM s=false:=by simp[iM,hb]
  simp[wh,C5,wi] at ho;simp[Po,D3,hk,bm,hg,hn];omega
 ·have hn:iM s=true:=by simp[iM,hj,hz,cB]
  have hd:s.data.size=s.size:=rfl;simp[Po,D3,hn,hd]
theorem ZJ (c:Int):ak T 172 [.v (.int .u8 c)] (.bool (C5 c)):=by
 refine .of_tree rfl (lA 93 (by kernel_rfl)) ao3 ?_;simp[QP,C5,wi];by_cases h:97≤c<;>by_cases h2:c≤122<;>by_cases h3:65≤c<;>by_cases h4:c≤90<;>simp[h,h2,h3,h4]
theorem amK (s:ByteArray):ak T 147 [str s] (.bool (iM s)):=by
 refine .of_tree rfl (lA 92 (by kernel_rfl)) ao4 ?_;simp[QQ];by_cases h0:(s.size:Int)<1
 ·have hn:iM s=false:=by simp[iM];omega
  simp[h0,hn]
 by_cases h1:(20:Int)<s.size
 ·have hn:iM s=false:=by simp[iM];omega
  simp[h0,h1,hn]
 rw[if_neg (by omega)];refine fU s.size (fun k=>wh k (A6 s k)) (fun k=>[.bool false,.int k]) (fun _=>[]) ?_ (fun k hk ho=>?_) (fun k hk ho hb=>?_) (fun hj=>?_)
 ·simp
 ·have hw:=bC hk (by omega);have bm:k<s.data.size:=hk;have hg:=Fe bm;simp[wh,wi] at ho;simp[O3,DJ,hk,bm,hw,hg];refine⟨_,ZJ _,?_⟩;simp[hw];intro g1 g2;exfalso;rcases ho with h|h
  ·rw[h] at g1;cases g1
  ·omega
 ·have bm:k<s.data.size:=hk;have hg:=Fe bm;have hn:iM s=false:=by simp[iM,hb]
  simp[wh,wi] at ho;simp[O3,DJ,hk,bm,hg,hn];refine⟨_,ZJ _,?_⟩;simp[ho.1];omega
 ·have hn:iM s=true:=by simp[iM,hj];omega
  simp[O3,DJ,hn]
end Rm
namespace Rm
open Go Go.Proofs Cx
theorem amH (l:List ByteArray)(n:Nat)(x:ByteArray)(hn:n≤l.length)(hl:l.length≤4294967296):ak T 148 [strs l,.int n,str x] (.bool (hasB (l.take n) x)):=by
 refine .of_tree rfl (lA 94 (by kernel_rfl)) ao0 ?_;simp[QM];refine .scan n (fun k=>l.getD k default≠x) (fun k=>[.bool false,.int k]) (fun _=>[]) ?_ (fun k hk hj ho=>?_) (fun k hk hj ho=>?_) (fun hj=>?_)
 ·simp
 ·have bm:k<l.length:=by omega
  have hw:=bC bm hl;simp[bm] at ho;simp[O2,DH,hk,bm,hw,strs,ho]
 ·have bm:k<l.length:=by omega
  simp[bm] at ho;have hm:hasB (l.take n) x=true:=LB.2 (by rw[←ho,aci];exact⟨k,by omega,rfl⟩);simp[O2,DH,hk,bm,strs,ho,hm]
 ·have hm:hasB (l.take n) x=false:=U5.2 (fun h=>by
   rw[aci] at h;obtain⟨k,hk,e⟩:=h;have:=hj k (by omega);simp[show k<l.length by omega] at this;exact this e)
  simp[O2,DH,hm]
def gC (l:List ByteArray)(i:Nat):Int:=if iM (l.getD i default)=false then 2 else if hasB (l.take i) (l.getD i default) then 5 else 0
theorem NA (l:List ByteArray)(i n:Nat)(h:i<n):gC (l.take n) i=gC l i:=by
 unfold gC;rw[aG,List.getElem?_take_of_lt h,List.take_take,nR (by omega),←aG]
theorem Dz (l:List ByteArray)(i:Nat)(hi:i<l.length)(hl:l.length≤4294967296):ak T 108 [strs l,.int i] (.int (gC l i)):=by
 refine .of_tree rfl (lA 91 (by kernel_rfl)) apb ?_;simp[QX,hi];refine⟨_,by simpa [strs,hi] using amK l[i],?_⟩;unfold gC;rw[aG,bq hi,jH];cases h1:iM l[i]<;>simp[h1];refine⟨_,by simpa [strs,hi] using amH l i l[i] (by omega) hl,?_⟩;cases h2:hasB (l.take i) l[i]<;>simp[h2]
theorem aak (l:List ByteArray)(i:Nat)(hi:i<l.length)(hl:l.length≤4294967296):ak T 163 [strs l,.int i] (.int (gC l i)):=by
 refine .of_tree rfl (lA 52 (by kernel_rfl)) apx ?_;simp[Rl,hi];refine⟨_,by simpa [strs,hi] using ank l[i],?_⟩;unfold gC;rw[aG,bq hi,jH];cases h1:iM l[i]<;>simp[h1];refine⟨by omega,_,by simpa [strs,hi] using ab4 (l.take i) l[i] (by rw[dN];omega),?_⟩;cases h2:hasB (l.take i) l[i]<;>simp[h2]
def jN (l:List ByteArray)(g:Nat→Bool)(i:Nat):Int:=if gC l i≠0 then gC l i else if g i then 0 else 1
def eK (l:List ByteArray)(Da:Int)(g:Nat→Bool):Int:=if Da<l.length then 6 else kI l.length (jN l g)
theorem IZ (l:List ByteArray)(Da:Int)(f:Nat)(caps:List D)(g:Nat→Bool)(hg:∀i:Nat,i<l.length→ak T f (.int i::caps) (.bool (g i)))(hl:l.length≤4294967296):
 ak T 129 [strs l,.int Da,.clo f caps] (.int (eK l Da g)):=by
 refine .of_tree rfl (lA 51 (by kernel_rfl)) apu ?_;simp[Ri,eK];by_cases h0:Da<l.length
 ·simp[h0];intro h;omega
 simp[h0];refine ug l.length (jN l g) (fun k=>[.int 0,.int k]) (fun _=>[]) ?_ (fun k hk ho=>?_) (fun k hk ho hb=>?_) (fun hj=>?_)
 ·simp
 ·have hw:=bC hk hl;have h1:gC l k=0:=by
   refine AG fun h=>?_;unfold jN at ho;rw[if_pos h] at ho;exact h ho
  have h2:g k=true:=by
   unfold jN at ho;rw[if_neg (by simpa using h1)] at ho;cases h:g k with
   |true=>rfl
   |false=>rw[h] at ho;simp at ho
  simp[Pn,D2,hk,hw];refine⟨_,aak l k hk hl,?_⟩;simp[h1];refine⟨_,_,⟨rfl,rfl⟩,_,hg k hk,?_⟩;simp[h2,hw]
 ·simp[Pn,D2,hk,hb];refine⟨_,aak l k hk hl,?_⟩;unfold jN at ho ⊢;by_cases h1:gC l k=0
  ·simp[h1] at ho ⊢;refine⟨_,_,⟨rfl,rfl⟩,_,hg k hk,?_⟩;simp[ho]
  ·simp[h1]
 ·simp[Pn,D2,hj]
theorem OH (l:List Int)(a b:Int)(hl:l.length≤4294967296):ak T 149 [ints l,.int a,.int b] (.bool (rising l a b)):=by
 refine .of_tree rfl (lA 97 (by kernel_rfl)) ao7 ?_;simp[QT];refine fU l.length (nD l a b) (fun k=>[.bool false,.int k]) (fun _=>[]) ?_ (fun k hk ho=>?_) (fun k hk ho hb=>?_) (fun hj=>?_)
 ·simp
 ·have hw:=bC hk hl;simp[nD,hk] at ho;simp[O7,DN,hk,hw,ints];refine⟨_,cJ _ _ _,?_⟩;by_cases gQ:0<k
  ·have bD:k-1<l.length:=by omega
   have fA:IntKind.i64.wrap ((k:Int)-1)=((k-1:Nat):Int):=by rw[uy (by omega)];omega
   have gd:¬l[k]≤l[k-1]:=by
        rcases ho.2 with h3|h3
        ·omega
        ·simp[bD] at h3;omega
   simp[ho.1,hk,hw,fA,gd,gQ,bD]
  ·simp[ho.1,hk,hw,gQ];omega
 ·have hf:rising l a b=false:=hb;simp[nD,hk] at ho;simp[O7,DN,hk,ints,hf];refine⟨_,cJ _ _ _,?_⟩;cases h1:wi l[k] a b with
  |false=>simp
  |true=>
   have h3:=ho h1;have gQ:0<k:=by omega
   have bD:k-1<l.length:=by omega
   have fA:IntKind.i64.wrap ((k:Int)-1)=((k-1:Nat):Int):=by rw[uy (by omega)];omega
   have gd:=h3.2;simp[bD] at gd;simp[hk,fA,gd,gQ,bD]
 ·have hf:rising l a b=true:=hj;simp[O7,DN,hf]
theorem Qa (n:Int):n.tdiv 100=if 0≤n then n/100 else-((-n)/100):=by
 split
 ·rename_i h;exact SD h
 ·rename_i h;have e:n.tdiv 100=-((-n).tdiv 100):=by rw[Int.neg_tdiv,Int.neg_neg]
  rw[e,SD (by omega)]
theorem aa3 (n:Int):n.tmod 100=n-100*n.tdiv 100:=Int.tmod_def n 100
theorem abS {n:Int}(h:aT n):IntKind.i64.wrap (n.tdiv 100)=n.tdiv 100:=cY (by rw[Qa];unfold aT at h;split<;>omega)
def mT (r:Realm)(c:City):Bool:=eg c.feasts.length (fun k=>wi ((c.feasts.getD k 0).tmod 100) 1 31)&&(decide (c.feasts.length≤60)&&decide (c.shut.length≤200)&&aL c.order r.orders.length&&aL c.currency r.currencies.length)&&
 (rising c.rest 0 6&&rising c.feasts 101 1231&&rising c.shut 0 100000)
theorem ani (r:Realm)(c:City)(h1:c.rest.length≤4294967296)(h2:c.feasts.length≤4294967296)(h3:c.shut.length≤4294967296):ak T 132 [bl r,fZ c] (.bool (mT r c)):=by
 refine .of_tree rfl (lA 58 (by kernel_rfl)) apt ?_;simp[Rh];refine fU c.feasts.length (fun k=>wi ((c.feasts.getD k 0).tmod 100) 1 31) (fun k=>[.bool false,.int k]) (fun _=>[]) ?_ (fun k hk ho=>?_) (fun k hk ho hb=>?_) (fun hj=>?_)
 ·simp
 ·have hw:=bC hk h2;simp[wi,hk] at ho;have g1:¬(c.feasts[k].tmod 100<1):=by omega
  have g2:¬(31<c.feasts[k].tmod 100):=by omega
  simp[Pm,D1,hk,hw,ints,g1,g2]
 ·have hf:mT r c=false:=by simp only[mT,hb,qK]
  simp[wi,hk] at ho;simp[Pm,D1,hk,ints,hf];by_cases g1:c.feasts[k].tmod 100<1
  ·simp[g1]
  ·have g2:=ho (by omega);simp[g1,g2]
 ·simp[Pm,D1];by_cases g1:(c.feasts.length:Int)≤60
  case neg=>
   have hf:mT r c=false:=by
        have gO:decide (c.feasts.length≤60)=false:=decide_eq_false (by omega);simp only[mT,gO,qK,w9]
   have gO:(60:Int)<c.feasts.length:=by omega
   simp[g1,gO,hf]
  by_cases g2:(c.shut.length:Int)≤200
  case neg=>
   have hf:mT r c=false:=by
        have gO:decide (c.shut.length≤200)=false:=decide_eq_false (by omega);simp only[mT,gO,qK,w9]
   have rn:(200:Int)<c.shut.length:=by omega
   simp[g1,g2,rn,hf]
  have gO:¬(60:Int)<c.feasts.length:=by omega
  have rn:¬(200:Int)<c.shut.length:=by omega
  have hf:mT r c=(aL c.order r.orders.length&&aL c.currency r.currencies.length&&(rising c.rest 0 6&&rising c.feasts 101 1231&&rising c.shut 0 100000)):=by
   have e1:decide (c.feasts.length≤60)=true:=decide_eq_true (by omega);have e2:decide (c.shut.length≤200)=true:=decide_eq_true (by omega);simp only[mT,hj,e1,e2,xb]
  rw[hf];simp[g1,g2,gO,rn];refine⟨_,fF _ _,?_⟩;simp;cases e1:aL c.order r.orders.length<;>simp;refine⟨_,fF _ _,?_⟩;simp;cases e2:aL c.currency r.currencies.length<;>simp;refine⟨_,Ep _ _ _ h1,?_⟩;simp;cases e3:rising c.rest 0 6<;>simp;refine⟨_,Ep _ _ _ h2,?_⟩;simp;cases e4:rising c.feasts 101 1231<;>simp;exact Ep _ _ _ h3
def oa (r:Realm)(c:City):Bool:=(wi c.order 0 (r.orders.length-1)&&wi c.currency 0 (r.currencies.length-1)&&decide (c.feasts.length≤60)&&decide (c.shut.length≤200))&&
 eg c.feasts.length (fun k=>wi ((c.feasts.getD k 0).tdiv 100) 1 12&&wi ((c.feasts.getD k 0).tmod 100) 1 31)&&(rising c.rest 0 6&&rising c.feasts 0 2000&&rising c.shut 0 100000)
theorem qI (n:Nat)(h:n≤4294967296):IntKind.i64.wrap ((n:Int)-1)=(n:Int)-1:=cY (by omega)
theorem amL (r:Realm)(c:City)(h1:c.rest.length≤4294967296)(h2:c.feasts.length≤4294967296)(h3:c.shut.length≤4294967296)(h4:r.orders.length≤4294967296)(h5:r.currencies.length≤4294967296)(hi:∀y,y∈c.feasts→aT y):
 ak T 109 [bl r,fZ c] (.bool (oa r c)):=by
 refine .of_tree rfl (lA 95 (by kernel_rfl)) ao5 ?_;simp[QR,qI _ h4,qI _ h5];refine⟨_,cJ _ _ _,?_⟩;cases e1:wi c.order 0 (r.orders.length-1)
 case false=>simp[oa,e1]
 simp;refine⟨_,cJ _ _ _,?_⟩;cases e2:wi c.currency 0 (r.currencies.length-1)
 case false=>simp[oa,e1,e2]
 by_cases g1:(c.feasts.length:Int)≤60
 case neg=>
  have hf:oa r c=false:=by
   have gO:decide (c.feasts.length≤60)=false:=decide_eq_false (by omega);simp only[oa,gO,qK,w9]
  have gO:(60:Int)<c.feasts.length:=by omega
  simp[gO,hf]
 by_cases g2:(c.shut.length:Int)≤200
 case neg=>
  have hf:oa r c=false:=by
   have gO:decide (c.shut.length≤200)=false:=decide_eq_false (by omega);simp only[oa,gO,qK,w9]
  have rn:(200:Int)<c.shut.length:=by omega
  simp[rn,hf]
 have gO:¬(60:Int)<c.feasts.length:=by omega
 have rn:¬(200:Int)<c.shut.length:=by omega
 have hf:oa r c=(eg c.feasts.length (fun k=>wi ((c.feasts.getD k 0).tdiv 100) 1 12&&wi ((c.feasts.getD k 0).tmod 100) 1 31)&&(rising c.rest 0 6&&rising c.feasts 0 2000&&rising c.shut 0 100000)):=by
  have e3:decide (c.feasts.length≤60)=true:=decide_eq_true (by omega);have e4:decide (c.shut.length≤200)=true:=decide_eq_true (by omega);simp only[oa,e1,e2,e3,e4,xb]
 rw[hf];simp[gO,rn];refine fU c.feasts.length (fun k=>wi ((c.feasts.getD k 0).tdiv 100) 1 12&&wi ((c.feasts.getD k 0).tmod 100) 1 31) (fun k=>[.bool false,.int k]) (fun _=>[]) ?_ (fun k hk ho=>?_) (fun k hk ho hb=>?_) (fun hj=>?_)
 ·simp
 ·have hw:=bC hk h2;have hI:=hi _ (cT hk);have hq:IntKind.i64.wrap (c.feasts[k].tdiv 100)=c.feasts[k].tdiv 100:=abS hI;simp[hk] at ho;simp[O4,DK,hk,ints,hq];refine⟨_,cJ _ _ _,?_⟩;simp[ho.1,hk];refine⟨_,cJ _ _ _,?_⟩;simp[ho.2,hk,hw]
 ·have hI:=hi _ (cT hk);have hq:IntKind.i64.wrap (c.feasts[k].tdiv 100)=c.feasts[k].tdiv 100:=abS hI;simp[hk] at ho;simp only[aG] at hb;rw[hb];simp[O4,DK,hk,ints,hq];refine⟨_,cJ _ _ _,?_⟩;cases e3:wi (c.feasts[k].tdiv 100) 1 12 with
  |false=>simp
  |true=>
   have:=ho e3;simp[hk];refine⟨_,cJ _ _ _,?_⟩;simp[this]
 ·simp only[aG] at hj;rw[hj];simp[O4,DK];refine⟨_,OH _ _ _ h1,?_⟩;simp;cases e3:rising c.rest 0 6<;>simp;refine⟨_,OH _ _ _ h2,?_⟩;simp;cases e4:rising c.feasts 0 2000<;>simp;exact OH _ _ _ h3
theorem adR (r:Realm)(c:City):oa r c=mT r c:=by
 rw[sC];have br:∀(i:Int) (n:Nat),(wi i 0 (n-1)=true)↔(aL i n=true):=by intro i n;simp[wi,aL];omega
 simp only[oa,mT,aj,decide_eq_true_eq,br,rising,xn,nD];constructor
 ·rintro⟨⟨⟨⟨⟨a1,a2⟩,a3⟩,a4⟩,a5⟩,⟨a6,a7⟩,a8⟩;refine⟨⟨fun k hk=>(a5 k hk).2,⟨⟨⟨a3,a4⟩,a1⟩,a2⟩⟩,⟨a6,fun k hk=>?_⟩,a8⟩;have h1:=a5 k hk;have h2:=a7 k hk;simp[wi,aa3,Qa] at h1 h2 ⊢;split at h1<;>omega
 ·rintro⟨⟨a5,⟨⟨⟨a3,a4⟩,a1⟩,a2⟩⟩,⟨a6,a7⟩,a8⟩;refine⟨⟨⟨⟨⟨a1,a2⟩,a3⟩,a4⟩,fun k hk=>?_⟩,⟨a6,fun k hk=>?_⟩,a8⟩
  ·have h1:=a5 k hk;have h2:=a7 k hk;simp[wi,aa3,Qa] at h1 h2 ⊢;split at h1<;>(try split)<;>omega
  ·have h2:=a7 k hk;simp[wi] at h2 ⊢;omega
end Rm
namespace Rm
open Go Go.Proofs Cx
theorem Ap {α β:Type}(f:α→β){l:List α}{k:Nat}(h:k<l.length):(l.take (k+1)).map f=(l.take k).map f++[f l[k]]:=by
 rw[nP h,nO];rfl
theorem vQ (i:Int)(n:Nat):aL i n=wi i 0 ((n:Int)-1):=by
 rw[sC];simp[wi,aL];omega
def xq (o:Order):List Int:=o.choices.map (·.ask)
def AR (o:Order):List Int:=o.rules.map (·.ask)
def oS (o:Order):Bool:=eg o.choices.length (fun k=>aL (o.choices.getD k default).by_ 5)&&(rising (xq o) 0 21&&rising (AR o) 0 21)
theorem anm (o:Order)(h1:o.choices.length≤100000)(h2:o.rules.length≤100000):ak T 135 [ir o] (.bool (oS o)):=by
 refine .of_tree rfl (lA 62 (by kernel_rfl)) apz ?_;simp[Rn];refine fU o.choices.length (fun k=>aL (o.choices.getD k default).by_ 5) (fun k=>[.bool false,.none,.int k]) (fun k=>[ints ((o.choices.take k).map (·.ask))]) ?_ (fun k hk ho=>?_) (fun k hk ho hb=>?_) (fun hj=>?_)
 ·simp[ints]
 ·have hw:=bC hk (by omega);have hl:(o.choices.take k).length=k:=by rw[dN];omega
  simp[hk] at ho;rw[Ap _ hk];simp[Pp,D4,hk,hw,ints,hl];refine⟨by omega,_,fF _ _,?_⟩;simp[ho,hw]
 ·have hf:oS o=false:=by simp only[oS,hb,qK]
  have hl:(o.choices.take k).length=k:=by rw[dN];omega
  simp[hk] at ho;simp[Pp,D4,hk,ints,hl,hf];refine⟨by omega,_,fF _ _,?_⟩;simp[ho]
 ·have hf:oS o=(rising (xq o) 0 21&&rising (AR o) 0 21):=by simp only[oS,hj,xb]
  rw[hf];simp[Pp,D4];refine aS.forRounds o.rules.length (fun k=>[.none,.int k]) (fun k=>[ints ((o.rules.take k).map (·.ask))]) ?_ (fun k hk=>?_) ?_
  ·simp[ints]
  ·have hw:=bC hk (by omega);have hl:(o.rules.take k).length=k:=by rw[dN];omega
   rw[Ap _ hk];simp[aaa,IQ,hk,hw,ints,hl];omega
  ·simp[aaa,IQ];refine⟨_,Ep (xq o) _ _ (by simp[xq];omega),?_⟩;simp;cases e1:rising (xq o) 0 21<;>simp;exact Ep (AR o) _ _ (by simp[AR];omega)
def wu (o:Order)(k:Nat):Bool:=wi (o.choices.getD k default).ask 0 21&&wi (o.choices.getD k default).by_ 0 4&&(k==0||decide ((o.choices.getD (k-1) default).ask<(o.choices.getD k default).ask))
def zL (o:Order)(k:Nat):Bool:=wi (o.rules.getD k default).ask 0 21&&(k==0||decide ((o.rules.getD (k-1) default).ask<(o.rules.getD k default).ask))
theorem amf (o:Order):(eg o.choices.length (wu o)&&eg o.rules.length (zL o))=oS o:=by
 rw[sC];simp only[oS,aj,rising,xn,xq,AR,ed];have g1:∀k,k<o.choices.length→(nD (o.choices.map (·.ask)) 0 21 k=true↔wi (o.choices.getD k default).ask 0 21=true∧(k=0∨(o.choices.getD (k-1) default).ask<(o.choices.getD k default).ask)):=by
  intro k hk;have bD:k-1<o.choices.length:=by omega
  simp[nD,hk,bD]
 have g2:∀k,k<o.rules.length→(nD (o.rules.map (·.ask)) 0 21 k=true↔wi (o.rules.getD k default).ask 0 21=true∧(k=0∨(o.rules.getD (k-1) default).ask<(o.rules.getD k default).ask)):=by
  intro k hk;have bD:k-1<o.rules.length:=by omega
  simp[nD,hk,bD]
 constructor
 ·rintro⟨a,b⟩;refine⟨fun k hk=>?_,fun k hk=>(g1 k hk).2 ?_,fun k hk=>(g2 k hk).2 ?_⟩
  ·have:=a k hk;simp[wu,wi,aL] at this ⊢;omega
  ·have:=a k hk;simp[wu] at this ⊢;exact⟨this.1.1,this.2⟩
  ·have:=b k hk;simp[zL] at this ⊢;exact this
 ·rintro⟨c,a,b⟩;refine⟨fun k hk=>?_,fun k hk=>?_⟩
  ·have h1:=(g1 k hk).1 (a k hk);have h2:=c k hk;simp[wu,wi,aL] at h1 h2 ⊢;omega
  ·have h1:=(g2 k hk).1 (b k hk);simp[zL] at h1 ⊢;exact h1
theorem amM (o:Order)(h1:o.choices.length≤100000)(h2:o.rules.length≤100000):ak T 110 [ir o] (.bool (oS o)):=by
 rw[←amf];refine .of_tree rfl (lA 100 (by kernel_rfl)) ao6 ?_;simp[QS];refine fU o.choices.length (wu o) (fun k=>[.bool false,.int k]) (fun _=>[]) ?_ (fun k hk ho=>?_) (fun k hk ho hb=>?_) (fun hj=>?_)
 ·simp
 ·have hw:=bC hk (by omega);simp[wu,hk] at ho;simp[O5,DL,hk];refine⟨_,cJ _ _ _,?_⟩;simp[ho.1.1,hk];refine⟨_,cJ _ _ _,?_⟩;by_cases gQ:0<k
  ·have bD:k-1<o.choices.length:=by omega
   have fA:IntKind.i64.wrap ((k:Int)-1)=((k-1:Nat):Int):=by rw[uy (by omega)];omega
   have h3:¬o.choices[k].ask≤o.choices[k-1].ask:=by
        rcases ho.2 with h3|h3
        ·omega
        ·simp[bD] at h3;omega
   simp[ho.1.2,hk,hw,fA,h3,gQ,bD]
  ·simp[ho.1.2,hk,hw,gQ];omega
 ·rw[hb];simp[wu,hk] at ho;simp[O5,DL,hk];refine⟨_,cJ _ _ _,?_⟩;cases e1:wi o.choices[k].ask 0 21 with
  |false=>simp
  |true=>
   simp[hk];refine⟨_,cJ _ _ _,?_⟩;cases e2:wi o.choices[k].by_ 0 4 with
   |false=>simp
   |true=>
    have h3:=ho e1 e2;have gQ:0<k:=by omega
    have bD:k-1<o.choices.length:=by omega
    have fA:IntKind.i64.wrap ((k:Int)-1)=((k-1:Nat):Int):=by rw[uy (by omega)];omega
    have gd:=h3.2;simp[bD] at gd;simp[hk,fA,gd,gQ,bD]
 ·rw[hj];simp[O5,DL];refine fU o.rules.length (zL o) (fun k=>[.bool false,.int k]) (fun _=>[]) ?_ (fun k hk ho=>?_) (fun k hk ho hb=>?_) (fun hj=>?_)
  ·simp
  ·have hw:=bC hk (by omega);simp[zL,hk] at ho;simp[O6,DM,hk];refine⟨_,cJ _ _ _,?_⟩;by_cases gQ:0<k
   ·have bD:k-1<o.rules.length:=by omega
    have fA:IntKind.i64.wrap ((k:Int)-1)=((k-1:Nat):Int):=by rw[uy (by omega)];omega
    have h3:¬o.rules[k].ask≤o.rules[k-1].ask:=by
       rcases ho.2 with h3|h3
       ·omega
       ·simp[bD] at h3;omega
    simp[ho.1,hk,hw,fA,h3,gQ,bD]
   ·simp[ho.1,hk,hw,gQ];omega
  ·rw[hb];simp[zL,hk] at ho;simp[O6,DM,hk];refine⟨_,cJ _ _ _,?_⟩;cases e1:wi o.rules[k].ask 0 21 with
   |false=>simp
   |true=>
    have h3:=ho e1;have gQ:0<k:=by omega
    have bD:k-1<o.rules.length:=by omega
    have fA:IntKind.i64.wrap ((k:Int)-1)=((k-1:Nat):Int):=by rw[uy (by omega)];omega
    have gd:=h3.2;simp[bD] at gd;simp[hk,fA,gd,gQ,bD]
  ·rw[hj];simp[O6,DM]
def fc (r:Realm):List ByteArray:=r.cities.map (·.name)
def fe (r:Realm):List ByteArray:=r.firms.map (·.name)
def eB (r:Realm):List ByteArray:=r.orders.map (·.name)
theorem anl (r:Realm)(h1:r.cities.length≤100000)(h2:r.firms.length≤100000)(h3:r.orders.length≤100000):ak T 128 [bl r] (.tup [strs (fc r),strs (fe r),strs (eB r)]):=by
 refine .of_tree rfl (lA 50 (by kernel_rfl)) apy ?_;simp[Rm];refine aS.forRounds r.cities.length (fun k=>[.none,.int k]) (fun k=>[strs ((r.cities.take k).map (·.name))]) ?_ (fun k hk=>?_) ?_
 ·simp[strs]
 ·have hw:=bC hk (by omega);have hl:(r.cities.take k).length=k:=by rw[dN];omega
  rw[Ap _ hk];simp[Z7,IM,hk,hw,strs,hl];omega
 ·simp[Z7,IM];refine aS.forRounds r.firms.length (fun k=>[.none,.int k]) (fun k=>[strs ((r.firms.take k).map (·.name))]) ?_ (fun k hk=>?_) ?_
  ·simp[strs]
  ·have hw:=bC hk (by omega);have hl:(r.firms.take k).length=k:=by rw[dN];omega
   rw[Ap _ hk];simp[Z8,IN,hk,hw,strs,hl];omega
  ·simp[Z8,IN];refine aS.forRounds r.orders.length (fun k=>[.none,.int k]) (fun k=>[strs ((r.orders.take k).map (·.name))]) ?_ (fun k hk=>?_) ?_
   ·simp[strs]
   ·have hw:=bC hk (by omega);have hl:(r.orders.take k).length=k:=by rw[dN];omega
    rw[Ap _ hk];simp[Z9,IP,hk,hw,strs,hl];omega
   ·simp[Z9,IP,fc,fe,eB]
end Rm
namespace Rm
open Go Go.Proofs Cx
structure Small (r:Realm):Prop where
 cur:r.currencies.length≤1000
 cities:r.cities.length≤1000
 groups:r.groups.length≤1000
 firms:r.firms.length≤1000
 orders:r.orders.length≤1000
 us:r.usances.length≤1000
 rates:r.rates.length≤1000
 halts:r.halts.length≤1000
 city:∀c,c∈r.cities→c.rest.length≤1000∧c.feasts.length≤1000∧c.shut.length≤1000∧∀y,y∈c.feasts→aT y
 order:∀o,o∈r.orders→o.choices.length≤1000∧o.rules.length≤1000
 rate:∀x,x∈r.rates→aT x.num∧aT x.den
def lb (r:Realm)(k j:Nat):Bool:=(r.usances.getD j default).fr !=(r.usances.getD k default).fr||(r.usances.getD j default).to !=(r.usances.getD k default).to
def wZ (r:Realm)(k:Nat):Int:=
 if(aL (r.usances.getD k default).fr r.cities.length&&aL (r.usances.getD k default).to r.cities.length&&wi (r.usances.getD k default).days 1 20000)=false then 1 else if eg k (lb r k) then 0 else 5
def uw (r:Realm):Int:=if 100<r.usances.length then 6 else kI r.usances.length (wZ r)
theorem ano (r:Realm)(h:Small r):ak T 136 [bl r] (.int (uw r)):=by
 refine .of_tree rfl (lA 63 (by kernel_rfl)) apC ?_;have hu:=h.us;simp[Rq,uw];by_cases h0:100<r.usances.length
 ·have fL:(100:Int)<r.usances.length:=by omega
  have vg:¬r.usances.length≤100:=by omega
  simp[h0,fL,vg]
 have fL:¬(100:Int)<r.usances.length:=by omega
 simp[h0,fL];refine ug r.usances.length (wZ r) (fun k=>[.int 0,.int k]) (fun _=>[]) ?_ (fun k hk ho=>?_) (fun k hk ho hb=>?_) (fun hj=>?_)
 ·simp
 ·have hw:=bC hk (by omega);have ha:aL r.usances[k].fr r.cities.length=true∧aL r.usances[k].to r.cities.length=true∧wi r.usances[k].days 1 20000=true∧eg k (lb r k)=true:=by
   unfold wZ at ho;simp only[aG,bq hk,jH] at ho;cases e1:aL r.usances[k].fr r.cities.length<;>cases e2:aL r.usances[k].to r.cities.length<;>cases e3:wi r.usances[k].days 1 20000<;>cases e4:eg k (lb r k)<;>simp[e1,e2,e3,e4] at ho ⊢
  obtain⟨a1,a2,a3,a4⟩:=ha;simp[wi] at a3;have a5:¬r.usances[k].days<1:=by omega
  have a6:¬20000<r.usances[k].days:=by omega
  simp[Ps,D7,hk];refine⟨_,fF _ _,?_⟩;simp[a1];refine⟨_,fF _ _,?_⟩;simp[a2,a5,a6];refine⟨by omega,fU k (lb r k) (fun j=>[.int 0,.int j]) (fun _=>[]) ?_ (fun j hj ej=>?_) (fun j hj ej bT=>?_) (fun Co=>?_)⟩
  ·simp
  ·have vM:=bC hj (by omega);have bG:j<r.usances.length:=by omega
   have hm:j<min k r.usances.length:=by omega
   simp[lb,bG,hk] at ej;simp[IS,Ad,hj,bG,hk,vM,hm];intro e e';rcases ej with h|h
   ·exact absurd e h
   ·exact absurd e' h
  ·rw[a4] at bT;cases bT
  ·simp[IS,Ad,hw];omega
 ·simp[Ps,D7,hk,hb];refine⟨_,fF _ _,?_⟩;unfold wZ at ho ⊢;simp only[aG,bq hk,jH] at ho ⊢;cases e1:aL r.usances[k].fr r.cities.length
  ·simp
  simp;refine⟨_,fF _ _,?_⟩;cases e2:aL r.usances[k].to r.cities.length
  ·simp
  cases e3:wi r.usances[k].days 1 20000
  ·simp[wi] at e3;by_cases g:r.usances[k].days<1
   ·simp[g]
   ·simp[g,e3 (by omega)]
  have K0:=e3;simp[wi] at K0;have a5:¬r.usances[k].days<1:=by omega
  have a6:¬20000<r.usances[k].days:=by omega
  simp[e1,e2,e3] at ho;simp[a5,a6];refine⟨by omega,fU k (lb r k) (fun j=>[.int 0,.int j]) (fun _=>[]) ?_ (fun j hj ej=>?_) (fun j hj ej bT=>?_) (fun Co=>?_)⟩
  ·simp
  ·have vM:=bC hj (by omega);have bG:j<r.usances.length:=by omega
   have hm:j<min k r.usances.length:=by omega
   simp[lb,bG,hk] at ej;simp[IS,Ad,hj,bG,hk,vM,hm];intro e e';rcases ej with h|h
   ·exact absurd e h
   ·exact absurd e' h
  ·have bG:j<r.usances.length:=by omega
   have hm:j<min k r.usances.length:=by omega
   simp[lb,bG,hk] at ej;simp[IS,Ad,hj,bG,hk,ho,hm]
   first|exact ej|simp[ej]
  ·rw[Co] at ho;cases ho
 ·simp[Ps,D7,hj]
theorem amR (r:Realm)(h:Small r):ak T 67 [bl r] (.int (uw r)):=by
 refine .of_tree rfl (lA 101 (by kernel_rfl)) ape ?_;have hu:=h.us;have hc:=h.cities;simp[Q0,uw];by_cases h0:100<r.usances.length
 ·have fL:(100:Int)<r.usances.length:=by omega
  have vg:¬r.usances.length≤100:=by omega
  simp[h0,fL,vg]
 have fL:¬(100:Int)<r.usances.length:=by omega
 simp[h0,fL];refine ug r.usances.length (wZ r) (fun k=>[.int 0,.int k]) (fun _=>[]) ?_ (fun k hk ho=>?_) (fun k hk ho hb=>?_) (fun hj=>?_)
 ·simp
 ·have hw:=bC hk (by omega);have ha:aL r.usances[k].fr r.cities.length=true∧aL r.usances[k].to r.cities.length=true∧wi r.usances[k].days 1 20000=true∧eg k (lb r k)=true:=by
   unfold wZ at ho;simp only[aG,bq hk,jH] at ho;cases e1:aL r.usances[k].fr r.cities.length<;>cases e2:aL r.usances[k].to r.cities.length<;>cases e3:wi r.usances[k].days 1 20000<;>cases e4:eg k (lb r k)<;>simp[e1,e2,e3,e4] at ho ⊢
  obtain⟨a1,a2,a3,a4⟩:=ha;rw[vQ] at a1 a2;simp[Pf,DV,hk,qI _ (show r.cities.length≤4294967296 by omega)];refine⟨_,cJ _ _ _,?_⟩;simp[a1,qI _ (show r.cities.length≤4294967296 by omega)];refine⟨_,cJ _ _ _,?_⟩;simp[a2];refine⟨_,cJ _ _ _,?_⟩;simp[a3];refine fU k (lb r k) (fun j=>[.int 0,.int j]) (fun _=>[]) ?_ (fun j hj ej=>?_) (fun j hj ej bT=>?_) (fun Co=>?_)
  ·simp
  ·have vM:=bC hj (by omega);have bG:j<r.usances.length:=by omega
   simp[lb,bG,hk] at ej;simp[IJ,Ab,hj,bG,hk,vM];intro e e';rcases ej with h|h
   ·exact absurd e h
   ·exact absurd e' h
  ·rw[a4] at bT;cases bT
  ·simp[IJ,Ab,hw]
 ·simp[Pf,DV,hk,hb,qI _ (show r.cities.length≤4294967296 by omega)];refine⟨_,cJ _ _ _,?_⟩;unfold wZ at ho ⊢;simp only[aG,bq hk,jH,vQ] at ho ⊢;cases e1:wi r.usances[k].fr 0 ((r.cities.length:Int)-1)
  ·simp
  simp[qI _ (show r.cities.length≤4294967296 by omega)];refine⟨_,cJ _ _ _,?_⟩;cases e2:wi r.usances[k].to 0 ((r.cities.length:Int)-1)
  ·simp
  simp;refine⟨_,cJ _ _ _,?_⟩;cases e3:wi r.usances[k].days 1 20000
  ·simp
  simp[e1,e2,e3] at ho;simp;refine fU k (lb r k) (fun j=>[.int 0,.int j]) (fun _=>[]) ?_ (fun j hj ej=>?_) (fun j hj ej bT=>?_) (fun Co=>?_)
  ·simp
  ·have vM:=bC hj (by omega);have bG:j<r.usances.length:=by omega
   simp[lb,bG,hk] at ej;simp[IJ,Ab,hj,bG,hk,vM];intro e e';rcases ej with h|h
   ·exact absurd e h
   ·exact absurd e' h
  ·have bG:j<r.usances.length:=by omega
   simp[lb,bG,hk] at ej;simp[IJ,Ab,hj,bG,hk,ho]
   first|exact ej|simp[ej]
  ·rw[Co] at ho;cases ho
 ·simp[Pf,DV,hj]
def wL (r:Realm)(k:Nat):Bool:=aL (r.rates.getD k default).fr r.currencies.length&&aL (r.rates.getD k default).to r.currencies.length&&((r.rates.getD k default).fr !=(r.rates.getD k default).to)&&
 wi (r.rates.getD k default).num 1 1073741824&&wi (r.rates.getD k default).den 1 1073741824&&wi (r.rates.getD k default).since 0 100000
def tc (r:Realm)(k:Nat):Bool:=aL (r.halts.getD k default).order r.orders.length&&wi (r.halts.getD k default).fr 0 (r.halts.getD k default).to&&decide ((r.halts.getD k default).to≤100000)
def nC (r:Realm):Int:=if 100<r.rates.length then 6 else if eg r.rates.length (wL r)=false then 1 else if 20<r.halts.length then 6 else if eg r.halts.length (tc r) then 0 else 1
theorem Hu {n:Int}(h:aT n)(m:Int)(hm:0≤m∧m≤4294967296):aL (IntKind.i64.wrap (n-1)) m=wi n 1 m:=by
 unfold aT at h;by_cases e:n=-9223372036854775808
 ·subst e;have:IntKind.i64.wrap (-9223372036854775808-1)=9223372036854775807:=by decide
  rw[this,sC];simp[aL,wi];omega
 ·rw[cY (by omega),sC];simp[aL,wi];omega
theorem Wq (n:Int):aL n 100001=wi n 0 100000:=by rw[sC];simp[aL,wi];omega
theorem ann (r:Realm)(h:Small r):ak T 137 [bl r] (.int (nC r)):=by
 refine .of_tree rfl (lA 64 (by kernel_rfl)) apA ?_;have hu:=h.rates;have hh:=h.halts;simp[Ro,nC];by_cases h0:100<r.rates.length
 ·have fL:(100:Int)<r.rates.length:=by omega
  have vg:¬r.rates.length≤100:=by omega
  simp[h0,fL,vg]
 have fL:¬(100:Int)<r.rates.length:=by omega
 simp[h0,fL];have key:∀k (hk:k<r.rates.length),∀{ρ:Env} {Q:Out→Prop},True:=fun _ _ _ _=>trivial;refine fU r.rates.length (wL r) (fun k=>[.int 0,.int k]) (fun _=>[]) ?_ (fun k hk ho=>?_) (fun k hk ho hb=>?_) (fun hj=>?_)
 ·simp
 ·have hw:=bC hk (by omega);have hI:=h.rate _ (cT hk);simp[wL,hk] at ho;obtain⟨⟨⟨⟨⟨a1,a2⟩,a3⟩,a4⟩,a5⟩,a6⟩:=ho;simp[Pq,D5,hk];refine⟨_,fF _ _,?_⟩;simp[a1];refine⟨_,fF _ _,?_⟩;simp[a2,a3];refine⟨_,fF _ _,?_⟩;simp[Hu hI.1,a4];refine⟨_,fF _ _,?_⟩;simp[Hu hI.2,a5];refine⟨_,fF _ _,?_⟩;simp[Wq,a6,hw]
 ·have hI:=h.rate _ (cT hk);rw[hb];simp[wL,hk] at ho;simp[Pq,D5,hk];refine⟨_,fF _ _,?_⟩;cases e1:aL r.rates[k].fr r.currencies.length
  ·simp
  simp;refine⟨_,fF _ _,?_⟩;cases e2:aL r.rates[k].to r.currencies.length
  ·simp
  by_cases e3:r.rates[k].fr=r.rates[k].to
  ·simp[e3]
  simp[e3];refine⟨_,fF _ _,?_⟩;rw[Hu hI.1 _ (by omega)];cases e4:wi r.rates[k].num 1 1073741824
  ·simp
  simp;refine⟨_,fF _ _,?_⟩;rw[Hu hI.2 _ (by omega)];cases e5:wi r.rates[k].den 1 1073741824
  ·simp
  simp;refine⟨_,fF _ _,?_⟩;rw[Wq];simp[ho e1 e2 e3 e4 e5]
 ·rw[hj];simp[Pq,D5];by_cases h1:20<r.halts.length
  ·have cB:(20:Int)<r.halts.length:=by omega
   have Lq:¬r.halts.length≤20:=by omega
   simp[h1,cB,Lq]
  have cB:¬(20:Int)<r.halts.length:=by omega
  simp[h1,cB];refine fU r.halts.length (tc r) (fun k=>[.int 0,.int k]) (fun _=>[]) ?_ (fun k hk ho=>?_) (fun k hk ho hb=>?_) (fun hj=>?_)
  ·simp
  ·have hw:=bC hk (by omega);simp[tc,wi,hk] at ho;obtain⟨⟨a1,a2⟩,a3⟩:=ho;have b1:¬r.halts[k].fr<0:=by omega
   have b2:¬r.halts[k].to<r.halts[k].fr:=by omega
   have b3:¬100000<r.halts[k].to:=by omega
   simp[Pr,D6,hk];refine⟨_,fF _ _,?_⟩;simp[a1,b1,b2,b3,hw]
  ·rw[hb];simp[tc,wi,hk] at ho;simp[Pr,D6,hk];refine⟨_,fF _ _,?_⟩;cases e1:aL r.halts[k].order r.orders.length
   ·simp
   have:=ho e1;by_cases b1:r.halts[k].fr<0
   ·simp[b1]
   by_cases b2:r.halts[k].to<r.halts[k].fr
   ·simp[b1,b2]
   have b3:100000<r.halts[k].to:=this (by omega) (by omega);simp[b1,b2,b3]
  ·rw[hj];simp[Pr,D6]
theorem amQ (r:Realm)(h:Small r):ak T 68 [bl r] (.int (nC r)):=by
 refine .of_tree rfl (lA 102 (by kernel_rfl)) apd ?_;have hu:=h.rates;have hh:=h.halts;have hc:=qI r.currencies.length (by have:=h.cur;omega);have Hk:=qI r.orders.length (by have:=h.orders;omega);simp[QZ,nC];by_cases h0:100<r.rates.length
 ·have fL:(100:Int)<r.rates.length:=by omega
  have vg:¬r.rates.length≤100:=by omega
  simp[h0,fL,vg]
 have fL:¬(100:Int)<r.rates.length:=by omega
 simp[h0,fL];refine fU r.rates.length (wL r) (fun k=>[.int 0,.int k]) (fun _=>[]) ?_ (fun k hk ho=>?_) (fun k hk ho hb=>?_) (fun hj=>?_)
 ·simp
 ·have hw:=bC hk (by omega);simp[wL,hk,vQ] at ho;obtain⟨⟨⟨⟨⟨a1,a2⟩,a3⟩,a4⟩,a5⟩,a6⟩:=ho;simp[Pd,DT,hk,hc];refine⟨_,cJ _ _ _,?_⟩;simp[a1,hc];refine⟨_,cJ _ _ _,?_⟩;simp[a2,a3];refine⟨_,cJ _ _ _,?_⟩;simp[a4];refine⟨_,cJ _ _ _,?_⟩;simp[a5];refine⟨_,cJ _ _ _,?_⟩;simp[a6,hw]
 ·rw[hb];simp[wL,hk,vQ] at ho;simp[Pd,DT,hk,hc];refine⟨_,cJ _ _ _,?_⟩;cases e1:wi r.rates[k].fr 0 ((r.currencies.length:Int)-1)
  ·simp
  simp[hc];refine⟨_,cJ _ _ _,?_⟩;cases e2:wi r.rates[k].to 0 ((r.currencies.length:Int)-1)
  ·simp
  by_cases e3:r.rates[k].fr=r.rates[k].to
  ·simp[e3]
  simp[e3];refine⟨_,cJ _ _ _,?_⟩;cases e4:wi r.rates[k].num 1 1073741824
  ·simp
  simp;refine⟨_,cJ _ _ _,?_⟩;cases e5:wi r.rates[k].den 1 1073741824
  ·simp
  simp;refine⟨_,cJ _ _ _,?_⟩;simp[ho e1 e2 e3 e4 e5]
 ·rw[hj];simp[Pd,DT];by_cases h1:20<r.halts.length
  ·have cB:(20:Int)<r.halts.length:=by omega
   have Lq:¬r.halts.length≤20:=by omega
   simp[h1,cB,Lq]
  have cB:¬(20:Int)<r.halts.length:=by omega
  simp[h1,cB];refine fU r.halts.length (tc r) (fun k=>[.int 0,.int k]) (fun _=>[]) ?_ (fun k hk ho=>?_) (fun k hk ho hb=>?_) (fun hj=>?_)
  ·simp
  ·have hw:=bC hk (by omega);simp[tc,hk,vQ] at ho;obtain⟨⟨a1,a2⟩,a3⟩:=ho;have b3:¬100000<r.halts[k].to:=by omega
   simp[Pe,DU,hk,Hk];refine⟨_,cJ _ _ _,?_⟩;simp[a1];refine⟨_,cJ _ _ _,?_⟩;simp[a2,b3,hw]
  ·rw[hb];simp[tc,hk,vQ] at ho;simp[Pe,DU,hk,Hk];refine⟨_,cJ _ _ _,?_⟩;cases e1:wi r.halts[k].order 0 ((r.orders.length:Int)-1)
   ·simp
   simp;refine⟨_,cJ _ _ _,?_⟩;cases e2:wi r.halts[k].fr 0 r.halts[k].to
   ·simp
   simp[ho e1 e2]
  ·rw[hj];simp[Pe,DU]
end Rm
namespace Rm
open Go Go.Proofs Cx
def eP:List Int→Int
 |[]=>0
 |x::l=>if x=0 then eP l else x
theorem P2:∀{l:List Int},eP l=0↔∀x,x∈l→x=0
 |[]=>by simp[eP]
 |x::l=>by
  simp only[eP,cM,forall_eq_or_imp];by_cases h:x=0
  ·simp[h,P2 (l:=l)]
  ·simp[h]
def oq (r:Realm)(i:Nat):Bool:=aL (r.firms.getD i default).city r.cities.length&&aL (r.firms.getD i default).group r.groups.length
def nZ (r:Realm)(i:Nat):Bool:=mT r (r.cities.getD i default)
def mC (r:Realm)(i:Nat):Bool:=oS (r.orders.getD i default)
def vf (r:Realm)(i:Nat):Bool:=aL (r.groups.getD i default).grade 10
def sZ (r:Realm):Int:=if 20<r.groups.length then 6 else if eg r.groups.length (vf r) then 0 else 1
def l6 (r:Realm):Int:=eP [eK r.currencies 8 (fun _=>true),eK (fc r) 40 (nZ r),sZ r,eK (fe r) 200 (oq r),eK (eB r) 20 (mC r),uw r,nC r]
theorem adI (i:Int):ak T 130 [.int i] (.bool true):=by
 refine .of_tree rfl (lA 56 (by kernel_rfl)) apl ?_;simp[Ra]
theorem adJ (r:Realm)(h:Small r)(i:Nat)(hi:i<r.cities.length):ak T 131 [.int i,.ref (bl r)] (.bool (nZ r i)):=by
 refine .of_tree rfl (lA 57 (by kernel_rfl)) apm ?_;obtain⟨h1,h2,h3,h4⟩:=h.city _ (cT hi);simp[Rb,hi,nZ];exact ani r r.cities[i] (by omega) (by omega) (by omega)
theorem adK (r:Realm)(i:Nat)(hi:i<r.firms.length):ak T 133 [.int i,.ref (bl r)] (.bool (oq r i)):=by
 refine .of_tree rfl (lA 60 (by kernel_rfl)) apn ?_;simp[Rc,hi,oq];refine⟨_,fF _ _,?_⟩;simp[hi];cases e1:aL r.firms[i].city r.cities.length<;>simp;exact fF _ _
theorem adL (r:Realm)(h:Small r)(i:Nat)(hi:i<r.orders.length):ak T 134 [.int i,.ref (bl r)] (.bool (mC r i)):=by
 refine .of_tree rfl (lA 61 (by kernel_rfl)) apo ?_;obtain⟨h1,h2⟩:=h.order _ (cT hi);simp[Re,hi,mC];exact anm r.orders[i] (by omega) (by omega)
theorem aaj (r:Realm)(h:Small r):ak T 84 [bl r] (.int (l6 r)):=by
 refine .of_tree rfl (lA 49 (by kernel_rfl)) apq ?_;have g1:=h.cur;have g2:=h.cities;have g3:=h.firms;have g4:=h.orders;have g5:=h.groups;simp[Q9];refine⟨_,anl r (by omega) (by omega) (by omega),?_⟩;simp;refine⟨_,IZ r.currencies 8 130 [] (fun _=>true) (fun i _=>adI _) (by omega),?_⟩;unfold l6;generalize e1:eK r.currencies 8 (fun _=>true)=x1;by_cases z1:x1=0
 case neg=>simp[z1,eP]
 simp[z1,eP];refine⟨_,IZ (fc r) 40 131 [.ref (bl r)] (nZ r) (fun i hi=>adJ r h i (by simpa [fc] using hi)) (by simp[fc];omega),?_⟩;generalize e2:eK (fc r) 40 (nZ r)=x2;by_cases z2:x2=0
 case neg=>simp[z2]
 simp[z2];by_cases z3:20<r.groups.length
 ·have Sp:(20:Int)<r.groups.length:=by omega
  simp[Sp,sZ,z3]
 have Sp:¬(20:Int)<r.groups.length:=by omega
 simp[Sp,sZ,z3];refine fU r.groups.length (vf r) (fun k=>[.int 0,.int k]) (fun _=>[]) ?_ (fun k hk ho=>?_) (fun k hk ho hb=>?_) (fun hj=>?_)
 ·simp
 ·have hw:=bC hk (by omega);simp[vf,hk] at ho;simp[Pk,DZ,hk];refine⟨_,fF _ _,?_⟩;simp[ho,hw]
 ·simp[vf,hk] at ho;rw[hb];simp[Pk,DZ,hk];refine⟨_,fF _ _,?_⟩;simp[ho]
 ·rw[hj];simp[Pk,DZ];refine⟨_,IZ (fe r) 200 133 [.ref (bl r)] (oq r) (fun i hi=>adK r i (by simpa [fe] using hi)) (by simp[fe];omega),?_⟩;generalize e4:eK (fe r) 200 (oq r)=x4;by_cases z4:x4=0
  case neg=>simp[z4]
  simp[z4];refine⟨_,IZ (eB r) 20 134 [.ref (bl r)] (mC r) (fun i hi=>adL r h i (by simpa [eB] using hi)) (by simp[eB];omega),?_⟩;generalize e5:eK (eB r) 20 (mC r)=x5;by_cases z5:x5=0
  case neg=>simp[z5]
  simp[z5];refine⟨_,ano r h,?_⟩;generalize e6:uw r=x6;by_cases z6:x6=0
  case neg=>simp[z6]
  simp[z6];have e7:(if nC r=0 then 0 else nC r)=nC r:=by split<;>simp_all
  rw[e7];exact ann r h
theorem afx (l:List ByteArray)(k:Nat):jN l (fun _=>true) k=gC l k:=by
 unfold jN;by_cases h:gC l k=0<;>simp[h]
theorem BS {l:List ByteArray}{g:Nat→Bool}{k:Nat}(h:jN l g k=0):gC l k=0∧g k=true:=by
 unfold jN at h;by_cases h1:gC l k=0
 ·simp[h1] at h;exact⟨h1,h⟩
 ·simp[h1] at h
theorem Lh {l:List ByteArray}{g:Nat→Bool}{k:Nat}(h:jN l g k≠0):(gC l k≠0∧jN l g k=gC l k)∨(gC l k=0∧g k=false∧jN l g k=1):=by
 unfold jN at h ⊢;by_cases h1:gC l k=0
 ·simp[h1] at h ⊢;simp[h]
 ·simp[h1]
theorem amN (r:Realm)(h:Small r):ak T 64 [bl r] (.int (eP [eK r.currencies 8 (fun _=>true),eK (fc r) 40 (nZ r)])):=by
 refine .of_tree rfl (lA 90 (by kernel_rfl)) ao9 ?_;have g1:=h.cur;have g2:=h.cities;have g4:=h.orders;simp[QV];unfold eK;by_cases z1:(8:Int)<r.currencies.length
 ·simp[z1,eP]
 simp[z1,eP];refine ug r.currencies.length (jN r.currencies (fun _=>true)) (fun k=>[.int 0,.int k]) (fun _=>[]) ?_ (fun k hk ho=>?_) (fun k hk ho hb=>?_) (fun hj=>?_)
 ·simp
 ·have hw:=bC hk (by omega);simp[O8,DO,hk];refine⟨_,Dz _ k hk (by omega),?_⟩;simp[(BS ho).1,hw]
 ·rw[hb];simp[O8,DO,hk,ho];rw[afx];exact Dz _ k hk (by omega)
 ·rw[hj];simp[O8,DO];have hlen:(fc r).length=r.cities.length:=by simp[fc]
  rw[hlen];by_cases z2:(40:Int)<r.cities.length
  ·simp[z2]
  simp[z2];have key:∀k (hk:k<r.cities.length),((fc r).take k).length=k∧D.list (List.take k (List.map str (fc r))++[str r.cities[k].name])=strs ((fc r).take (k+1))∧
     ak T 108 [strs ((fc r).take (k+1)),.int k] (.int (gC (fc r) k))∧ak T 109 [bl r,fZ r.cities[k]] (.bool (nZ r k)):=by
   intro k hk;have bm:k<(fc r).length:=by omega
   have hg:(fc r)[k]=r.cities[k].name:=by simp[fc]
   have hs:(fc r).take (k+1)=(fc r).take k++[(fc r)[k]]:=nP bm;have hn:=Dz ((fc r).take (k+1)) k (by rw[dN];omega) (by rw[dN];omega);rw[NA _ _ _ (by omega)] at hn;obtain⟨c1,c2,c3,c4⟩:=h.city _ (cT hk);have hc:=amL r r.cities[k] (by omega) (by omega) (by omega) (by omega) (by omega) c4;rw[adR] at hc;exact⟨by rw[dN];omega,by rw[hs,hg];simp[strs],hn,by simpa [nZ,hk] using hc⟩
  refine ug r.cities.length (jN (fc r) (nZ r)) (fun k=>[.int 0,.none,.int k]) (fun k=>[strs ((fc r).take k)]) ?_ (fun k hk ho=>?_) (fun k hk ho hb=>?_) (fun hj=>?_)
  ·simp[strs]
  ·have hw:=bC hk (by omega);obtain⟨hl,eu,hn,hc⟩:=key k hk;obtain⟨o1,o2⟩:=BS ho;rw[o1] at hn;rw[o2] at hc;simp[O9,DP,hk,hl,eu,an6];refine⟨by omega,_,hn,?_⟩;simp[hk];refine⟨_,hc,?_⟩;simp[hw]
  ·rw[hb];obtain⟨hl,eu,hn,hc⟩:=key k hk;simp[O9,DP,hk,hl,eu,ho];refine⟨by omega,_,hn,?_⟩;rcases Lh ho with⟨o1,o2⟩|⟨o1,o2,o3⟩
   ·simp[o1,o2]
   ·rw[o2] at hc;simp[o1,o3,hk];refine⟨_,hc,?_⟩;simp
  ·rw[hj];simp[O9,DP]
theorem amO (r:Realm)(h:Small r):ak T 65 [bl r] (.int (eP [sZ r,eK (fe r) 200 (oq r)])):=by
 refine .of_tree rfl (lA 98 (by kernel_rfl)) apa ?_;have g1:=h.groups;have g2:=h.firms;have g3:=h.cities;have w3:=qI r.cities.length (by omega);have w1:=qI r.groups.length (by omega);simp[QW];by_cases z1:20<r.groups.length
 ·have Sn:(20:Int)<r.groups.length:=by omega
  simp[Sn,sZ,z1,eP]
 have Sn:¬(20:Int)<r.groups.length:=by omega
 simp[Sn,sZ,z1,eP];refine fU r.groups.length (vf r) (fun k=>[.int 0,.int k]) (fun _=>[]) ?_ (fun k hk ho=>?_) (fun k hk ho hb=>?_) (fun hj=>?_)
 ·simp
 ·have hw:=bC hk (by omega);simp[vf,hk] at ho;have e:wi r.groups[k].grade 0 9=aL r.groups[k].grade 10:=by rw[sC];simp[wi,aL];omega
  simp[Pa,DQ,hk];refine⟨_,cJ _ _ _,?_⟩;simp[e,ho,hw]
 ·simp[vf,hk] at ho;have e:wi r.groups[k].grade 0 9=aL r.groups[k].grade 10:=by rw[sC];simp[wi,aL];omega
  rw[hb];simp[Pa,DQ,hk];refine⟨_,cJ _ _ _,?_⟩;simp[e,ho]
 ·rw[hj];simp[Pa,DQ];unfold eK;have hlen:(fe r).length=r.firms.length:=by simp[fe]
  rw[hlen];by_cases z2:(200:Int)<r.firms.length
  ·simp[z2]
  simp[z2];have key:∀k (hk:k<r.firms.length),((fe r).take k).length=k∧D.list (List.take k (List.map str (fe r))++[str r.firms[k].name])=strs ((fe r).take (k+1))∧
     ak T 108 [strs ((fe r).take (k+1)),.int k] (.int (gC (fe r) k))∧oq r k=(wi r.firms[k].city 0 ((r.cities.length:Int)-1)&&wi r.firms[k].group 0 ((r.groups.length:Int)-1)):=by
   intro k hk;have bm:k<(fe r).length:=by omega
   have hg:(fe r)[k]=r.firms[k].name:=by simp[fe]
   have hs:(fe r).take (k+1)=(fe r).take k++[(fe r)[k]]:=nP bm;have hn:=Dz ((fe r).take (k+1)) k (by rw[dN];omega) (by rw[dN];omega);rw[NA _ _ _ (by omega)] at hn;exact⟨by rw[dN];omega,by rw[hs,hg];simp[strs],hn,by simp[oq,hk,vQ]⟩
  refine ug r.firms.length (jN (fe r) (oq r)) (fun k=>[.int 0,.none,.int k]) (fun k=>[strs ((fe r).take k)]) ?_ (fun k hk ho=>?_) (fun k hk ho hb=>?_) (fun hj=>?_)
  ·simp[strs]
  ·have hw:=bC hk (by omega);obtain⟨hl,eu,hn,hc⟩:=key k hk;obtain⟨o1,o2⟩:=BS ho;rw[o1] at hn;rw[o2] at hc;have Vb:=Bool.and_eq_true_iff.1 hc.symm;simp[Pb,DR,hk,hl,eu];refine⟨by omega,_,hn,?_⟩;simp[hk,w3];refine⟨_,cJ _ _ _,?_⟩;simp[Vb.1,hk,w1];refine⟨_,cJ _ _ _,?_⟩;simp[Vb.2,hw]
  ·rw[hb];obtain⟨hl,eu,hn,hc⟩:=key k hk;simp[Pb,DR,hk,hl,eu,ho];refine⟨by omega,_,hn,?_⟩;rcases Lh ho with⟨o1,o2⟩|⟨o1,o2,o3⟩
   ·simp[o1,o2]
   ·rw[o2] at hc;simp[o1,o3,hk,w3];refine⟨_,cJ _ _ _,?_⟩;cases e1:wi r.firms[k].city 0 ((r.cities.length:Int)-1)
    ·simp
    rw[e1,xb] at hc;simp[hk,w1];refine⟨_,cJ _ _ _,?_⟩;simp[←hc]
  ·rw[hj];simp[Pb,DR]
theorem amP (r:Realm)(h:Small r):ak T 66 [bl r] (.int (eK (eB r) 20 (mC r))):=by
 refine .of_tree rfl (lA 99 (by kernel_rfl)) apc ?_;have g2:=h.orders;simp[QY];unfold eK;have hlen:(eB r).length=r.orders.length:=by simp[eB]
 rw[hlen];by_cases z2:(20:Int)<r.orders.length
 ·simp[z2]
 simp[z2];have key:∀k (hk:k<r.orders.length),((eB r).take k).length=k∧D.list (List.take k (List.map str (eB r))++[str r.orders[k].name])=strs ((eB r).take (k+1))∧
  ak T 108 [strs ((eB r).take (k+1)),.int k] (.int (gC (eB r) k))∧ak T 110 [ir r.orders[k]] (.bool (mC r k)):=by
  intro k hk;have bm:k<(eB r).length:=by omega
  have hg:(eB r)[k]=r.orders[k].name:=by simp[eB]
  have hs:(eB r).take (k+1)=(eB r).take k++[(eB r)[k]]:=nP bm;have hn:=Dz ((eB r).take (k+1)) k (by rw[dN];omega) (by rw[dN];omega);rw[NA _ _ _ (by omega)] at hn;obtain⟨c1,c2⟩:=h.order _ (cT hk);exact⟨by rw[dN];omega,by rw[hs,hg];simp[strs],hn,by simpa [mC,hk] using amM r.orders[k] (by omega) (by omega)⟩
 refine ug r.orders.length (jN (eB r) (mC r)) (fun k=>[.int 0,.none,.int k]) (fun k=>[strs ((eB r).take k)]) ?_ (fun k hk ho=>?_) (fun k hk ho hb=>?_) (fun hj=>?_)
 ·simp[strs]
 ·have hw:=bC hk (by omega);obtain⟨hl,eu,hn,hc⟩:=key k hk;obtain⟨o1,o2⟩:=BS ho;rw[o1] at hn;rw[o2] at hc;simp[Pc,DS,hk,hl,eu];refine⟨by omega,_,hn,?_⟩;simp[hk];refine⟨_,hc,?_⟩;simp[hw]
 ·rw[hb];obtain⟨hl,eu,hn,hc⟩:=key k hk;simp[Pc,DS,hk,hl,eu,ho];refine⟨by omega,_,hn,?_⟩;rcases Lh ho with⟨o1,o2⟩|⟨o1,o2,o3⟩
  ·simp[o1,o2]
  ·rw[o2] at hc;simp[o1,o3,hk];refine⟨_,hc,?_⟩;simp
 ·rw[hj];simp[Pc,DS]
theorem amI (r:Realm)(h:Small r):ak T 32 [bl r] (.int (l6 r)):=by
 refine .of_tree rfl (lA 89 (by kernel_rfl)) ao1 ?_
 have e:l6 r=eP [eP [eK r.currencies 8 (fun _=>true),eK (fc r) 40 (nZ r)],eP [sZ r,eK (fe r) 200 (oq r)],eK (eB r) 20 (mC r),uw r,nC r]:=by
  unfold l6;simp only[eP];split<;>(try split)<;>(try split)<;>(try split)<;>simp_all
 rw[e];simp[QN];refine⟨_,amN r h,?_⟩;have h1:=amO r h;generalize eP [eK r.currencies 8 (fun _=>true),eK (fc r) 40 (nZ r)]=x1 at*;generalize eP [sZ r,eK (fe r) 200 (oq r)]=x2 at*;have h2:=amP r h;generalize eK (eB r) 20 (mC r)=x3 at*;have h3:=amR r h;generalize uw r=x4 at*;have h4:=amQ r h;generalize nC r=x5 at*;by_cases z1:x1=0
 case neg=>simp[z1,eP]
 simp[z1,eP];refine⟨_,h1,?_⟩;by_cases z2:x2=0
 case neg=>simp[z2]
 simp[z2];refine⟨_,h2,?_⟩;by_cases z3:x3=0
 case neg=>simp[z3]
 simp[z3];refine⟨_,h3,?_⟩;by_cases z4:x4=0
 case neg=>simp[z4]
 simp[z4];have e7:(if x5=0 then 0 else x5)=x5:=by split<;>simp_all
 rw[e7];exact h4
end Rm
namespace Rm
open Go Go.Proofs Cx
def jD:Nat→Tm→Int→Int
 |0,_,_=>-1
 |L+1,t,n=>t.args.foldl (fun m a=>if 0≤m then jD L a m else m) (n-1)
theorem size_le:∀(L:Nat) (t:Tm) (n:Int),0≤n→-1≤jD L t n∧jD L t n≤n
 |0,t,n,h=>by simp[jD];omega
 |L+1,t,n,h=>by
  have key:∀(l:List Tm) (m:Int),-1≤m→m≤n→-1≤l.foldl (fun m a=>if 0≤m then jD L a m else m) m∧l.foldl (fun m a=>if 0≤m then jD L a m else m) m≤n:=by
   intro l
   induction l with
   |nil=>intro m h1 h2;exact⟨h1,h2⟩
   |cons a l ih=>
    intro m h1 h2;simp only[JL];split
    ·rename_i hm;have:=size_le L a m hm;exact ih _ this.1 (by omega)
    ·exact ih _ h1 h2
  exact key _ _ (by omega) (by omega)
theorem aaQ (L:Nat):∀(l:List Tm) (m:Int),m<0→l.foldl (fun m a=>if 0≤m then jD L a m else m) m=m
 |[],m,h=>rfl
 |a::l,m,h=>by simp only[JL];rw[if_neg (by omega)];exact aaQ L l m h
theorem agr {α β:Type}(f:β→α→β)(b:β){l:List α}{k:Nat}(h:k<l.length):(l.take (k+1)).foldl f b=f ((l.take k).foldl f b) l[k]:=by
 rw[nP h,JK];rfl
theorem agq {α β:Type}(f:β→α→β)(b:β)(l:List α)(k:Nat):l.foldl f b=(l.drop k).foldl f ((l.take k).foldl f b):=by
 rw[←JK,JR]
theorem _root_.Cx.Tm.OK.len {t:Tm}(h:t.OK):t.args.length≤9223372036854775807:=by cases h with|mk o n xs h1 h2 h3 h4=>exact h3
theorem _root_.Cx.Tm.OK.arg {t:Tm}(h:t.OK){a:Tm}(ha:a∈t.args):a.OK:=by cases h with|mk o n xs h1 h2 h3 h4=>exact h4 a ha
theorem ZO:∀(L:Nat) (t:Tm) (n:Int),t.OK→0≤n→n≤1000→L≤1000→ak T 146 [df t,.int n,.int L] (.int (jD L t n))
 |0,t,n,ht,h0,h1,hL=>by
  refine .of_tree rfl Tr aa7 ?_;simp[Jt,jD]
 |L+1,t,n,ht,h0,h1,hL=>by
  refine .of_tree rfl Tr aa7 ?_;have qh:IntKind.i64.wrap (n-1)=n-1:=cY (by omega);have hl:=ht.len;have kM:¬((L:Int)+1<1):=by omega
  simp[Jt,qh,kM]
  let g:Nat→Int:=fun k=>(t.args.take k).foldl (fun m a=>if 0≤m then jD L a m else m) (n-1)
  have gb:∀k,-1≤g k∧g k≤1000:=by
   intro k;have:g k=jD (L+1) (.mk 0 0 (t.args.take k)) n:=rfl;have:=size_le (L+1) (.mk 0 0 (t.args.take k)) n h0;omega
  refine .scan t.args.length (fun k=>0≤g k) (fun k=>[.int (g k),.int k]) (fun _=>[]) ?_ (fun k hk hj ho=>?_) (fun k hk hj ho=>?_) (fun hj=>?_)
  ·simp[g,qh]
  ·have hw:IntKind.i64.wrap ((k:Int)+1)=(k:Int)+1:=cY (by omega);have Hr:IntKind.i64.wrap (L:Int)=(L:Int):=cY (by omega);have hg:g (k+1)=jD L t.args[k] (g k):=by
    show(t.args.take (k+1)).foldl _ _=_;rw[agr _ _ hk];show(if 0≤g k then _ else _)=_;rw[if_pos ho]
   rw[hg];have gh:=ZO L t.args[k] (g k) (ht.arg (cT hk)) ho (gb k).2 (by omega);generalize g k=m at*;simp[Pg,DW,hk,ho,Hr];refine⟨_,gh,?_⟩;simp[hw]
  ·have hf:jD (L+1) t n=g k:=by
    show t.args.foldl _ _=_;rw[agq _ _ _ k];exact aaQ L _ _ (by show g k<0;omega)
   rw[hf];generalize g k=m at*;simp[Pg,DW,hk,ho]
  ·have hf:jD (L+1) t n=g t.args.length:=by
    show t.args.foldl _ _=(t.args.take t.args.length).foldl _ _;rw[List.take_length]
   rw[hf];generalize g t.args.length=m at*;simp[Pg,DW]
theorem ZN (t:Tm)(ht:t.OK):ak T 107 [df t] (.bool (decide (0≤jD 20 t 100))):=by
 refine .of_tree rfl (lA 87 (by kernel_rfl)) apg ?_;simp[Q4];refine⟨_,ZO 20 t 100 ht (by omega) (by omega) (by omega),?_⟩;simp
def pV (o:Order):Bool:=(decide (o.rules.length≤60)&&decide (o.choices.length≤60))&&eg o.rules.length (fun k=>decide (0≤jD 20 (o.rules.getD k default).term 100))
theorem ZP (o:Order)(ho:o.OK):ak T 63 [ir o] (.bool (pV o)):=by
 refine .of_tree rfl (lA 86 (by kernel_rfl)) api ?_;simp[Q6];by_cases h1:(o.rules.length:Int)≤60
 case neg=>
  have cB:(60:Int)<o.rules.length:=by omega
  have hf:pV o=false:=by
   have:decide (o.rules.length≤60)=false:=decide_eq_false (by omega);simp only[pV,this,qK]
  simp[cB,hf]
 by_cases h2:(o.choices.length:Int)≤60
 case neg=>
  have cB:(60:Int)<o.choices.length:=by omega
  have hf:pV o=false:=by
   have:decide (o.choices.length≤60)=false:=decide_eq_false (by omega);simp only[pV,this,qK,w9]
  simp[cB,hf]
 have cB:¬(60:Int)<o.rules.length:=by omega
 have gz:¬(60:Int)<o.choices.length:=by omega
 have hf:pV o=eg o.rules.length (fun k=>decide (0≤jD 20 (o.rules.getD k default).term 100)):=by
  have e1:decide (o.rules.length≤60)=true:=decide_eq_true (by omega);have e2:decide (o.choices.length≤60)=true:=decide_eq_true (by omega);simp only[pV,e1,e2,xb]
 rw[hf];simp[cB,gz];have hO:=ho.2.2;refine fU o.rules.length (fun k=>decide (0≤jD 20 (o.rules.getD k default).term 100)) (fun k=>[.bool false,.int k]) (fun _=>[]) ?_ (fun k hk ho=>?_) (fun k hk ho hb=>?_) (fun hj=>?_)
 ·simp
 ·have hw:=bC hk (by omega);simp[hk] at ho;simp[Ph,DX,hk];refine⟨_,ZN _ (hO _ (cT hk)).2,?_⟩;simp[ho,hw]
 ·simp only[aG] at hb;rw[hb];simp[hk] at ho;simp[Ph,DX,hk];refine⟨_,ZN _ (hO _ (cT hk)).2,?_⟩;simp[ho]
 ·simp only[aG] at hj;rw[hj];simp[Ph,DX]
def BO (f:File):Bool:=decide ((f.signs.length:Int)≤50)&&decide ((f.alters.length:Int)≤10)&&decide ((f.acts.length:Int)≤110)&&decide ((f.facts.length:Int)≤220)
theorem amS (f:File):ak T 62 [ga f] (.bool (BO f)):=by
 refine .of_tree rfl (lA 85 (by kernel_rfl)) apf ?_;simp[Q3,BO];by_cases h1:(f.signs.length:Int)≤50<;>by_cases h2:(f.alters.length:Int)≤10<;>by_cases h3:(f.acts.length:Int)≤110<;>by_cases h4:(f.facts.length:Int)≤220<;>
  simp[h1,h2,h3,h4]
end Rm
namespace Rm
open Go Go.Proofs Cx
def BM (r:Realm)(k:Nat):Bool:=decide (((r.cities.getD k default).feasts.length:Int)≤70)&&decide (((r.cities.getD k default).shut.length:Int)≤210)&&decide (((r.cities.getD k default).rest.length:Int)≤8)
def BN (r:Realm)(k:Nat):Bool:=decide (((r.orders.getD k default).choices.length:Int)≤40)&&decide (((r.orders.getD k default).rules.length:Int)≤40)
def Gt (r:Realm):Bool:=decide ((r.currencies.length:Int)<50)&&decide ((r.cities.length:Int)<50)&&decide ((r.groups.length:Int)<50)&&decide ((r.firms.length:Int)<210)&&decide ((r.orders.length:Int)<50)&&decide ((r.usances.length:Int)<110)&&decide ((r.rates.length:Int)<110)&&decide ((r.halts.length:Int)<50)
def om (r:Realm):Bool:=eg (min r.cities.length 50) (BM r)&&eg (min r.orders.length 50) (BN r)&&Gt r
theorem amJ (r:Realm)(hr:r.OK):ak T 61 [bl r] (.bool (om r)):=by
 refine .of_tree rfl (lA 84 (by kernel_rfl)) ao2 ?_;simp[QO];refine fU (min r.cities.length 50) (BM r) (fun k=>[.bool false,.int k]) (fun _=>[]) ?_ (fun k hk ho=>?_) (fun k hk ho hb=>?_) (fun hj=>?_)
 ·simp
 ·have bD:k<r.cities.length:=by omega
  have cH:k<50:=by omega
  have hw:=bC cH (by omega);simp[BM,bD] at ho;obtain⟨⟨a1,a2⟩,a3⟩:=ho;have b1:¬(70:Int)<r.cities[k].feasts.length:=by omega
  have b2:¬(210:Int)<r.cities[k].shut.length:=by omega
  have b3:¬(8:Int)<r.cities[k].rest.length:=by omega
  simp[DI,wM,bD,cH,hw,b1,b2,b3];omega
 ·have bD:k<r.cities.length:=by omega
  have cH:k<50:=by omega
  have hf:om r=false:=by simp only[om,hb,qK]
  rw[hf];simp[BM,bD] at ho;by_cases b1:(70:Int)<r.cities[k].feasts.length
  ·simp[DI,wM,bD,cH,b1];omega
  by_cases b2:(210:Int)<r.cities[k].shut.length
  ·simp[DI,wM,bD,cH,b1,b2];omega
  have b3:(8:Int)<r.cities[k].rest.length:=by have:=ho (by omega) (by omega);omega
  simp[DI,wM,bD,cH,b1,b2,b3];omega
 ·have hn:¬((min r.cities.length 50:Nat):Int)<r.cities.length∨¬((min r.cities.length 50:Nat):Int)<50:=by omega
  simp[DI,wM];rw[if_neg (by omega)];refine fU (min r.orders.length 50) (BN r) (fun k=>[.bool false,.int k]) (fun _=>[]) ?_ (fun k hk ho=>?_) (fun k hk ho hb=>?_) (fun L1=>?_)
  ·simp
  ·have bD:k<r.orders.length:=by omega
   have cH:k<50:=by omega
   have hw:=bC cH (by omega);simp[BN,bD] at ho;obtain⟨a1,a2⟩:=ho;have b1:¬(40:Int)<r.orders[k].choices.length:=by omega
   have b2:¬(40:Int)<r.orders[k].rules.length:=by omega
   simp[II,Aa,bD,cH,hw,b1,b2];omega
  ·have bD:k<r.orders.length:=by omega
   have cH:k<50:=by omega
   have hf:om r=false:=by simp only[om,hb,qK,w9]
   rw[hf];simp[BN,bD] at ho;by_cases b1:(40:Int)<r.orders[k].choices.length
   ·simp[II,Aa,bD,cH,b1];omega
   have b2:(40:Int)<r.orders[k].rules.length:=by have:=ho (by omega);omega
   simp[II,Aa,bD,cH,b1,b2];omega
  ·have hf:om r=Gt r:=by simp only[om,hj,L1,xb]
   rw[hf];simp[II,Aa];rw[if_neg (by omega)];unfold Gt;by_cases c1:(r.currencies.length:Int)<50<;>simp[c1];by_cases c2:(r.cities.length:Int)<50<;>simp[c2];by_cases c3:(r.groups.length:Int)<50<;>simp[c3];by_cases c4:(r.firms.length:Int)<210<;>simp[c4];by_cases c5:(r.orders.length:Int)<50<;>simp[c5];by_cases c6:(r.usances.length:Int)<110<;>simp[c6];by_cases c7:(r.rates.length:Int)<110<;>simp[c7]
theorem Ld {r:Realm}(hr:r.OK)(h:om r=true):Small r:=by
 simp only[om,Gt,aj,decide_eq_true_eq,xn] at h;obtain⟨⟨h1,h2⟩,⟨⟨⟨⟨⟨⟨⟨c1,c2⟩,c3⟩,c4⟩,c5⟩,c6⟩,c7⟩,c8⟩⟩:=h;obtain⟨k1,⟨k2,k2'⟩,⟨k3,k3'⟩,⟨k4,k4'⟩,⟨k5,k5'⟩,⟨k6,k6'⟩,⟨k7,k7'⟩,⟨k8,k8'⟩⟩:=hr;refine⟨by omega,by omega,by omega,by omega,by omega,by omega,by omega,by omega,fun c hc=>?_,fun o ho=>?_,fun x hx=>?_⟩
 ·obtain⟨k,hk,rfl⟩:=mO hc;have:=h1 k (by omega);simp[BM,hk] at this;have:=k2' _ hc;exact⟨by omega,by omega,by omega,fun y hy=>this.2.2.2.1.2 y hy⟩
 ·obtain⟨k,hk,rfl⟩:=mO ho;have:=h2 k (by omega);simp[BN,hk] at this;omega
 ·have:=k7' x hx;exact⟨this.2.2.1,this.2.2.2.1⟩
def rl (r:Realm)(f:File):Bool:=(om r&&BO f)&&eg r.orders.length (fun k=>pV (r.orders.getD k default))
theorem amT (r:Realm)(f:File)(hr:r.OK):ak T 31 [bl r,ga f] (.bool (rl r f)):=by
 refine .of_tree rfl (lA 83 (by kernel_rfl)) apj ?_;simp[Q7];refine⟨_,amJ r hr,?_⟩;cases e1:om r
 ·simp[rl,e1]
 simp;refine⟨_,amS f,?_⟩;cases e2:BO f
 ·simp[rl,e1,e2]
 have hs:=Ld hr e1;have ho:=hs.orders;have hf:rl r f=eg r.orders.length (fun k=>pV (r.orders.getD k default)):=by simp only[rl,e1,e2,xb]
 rw[hf];simp;have hO:=hr.2.2.2.2.1.2;refine fU r.orders.length (fun k=>pV (r.orders.getD k default)) (fun k=>[.bool false,.int k]) (fun _=>[]) ?_ (fun k hk ho=>?_) (fun k hk ho hb=>?_) (fun hj=>?_)
 ·simp
 ·have hw:=bC hk (by omega);simp[hk] at ho;simp[Pj,DY,hk];refine⟨_,ZP _ (hO _ (cT hk)),?_⟩;simp[ho,hw]
 ·simp only[aG] at hb;rw[hb];simp[hk] at ho;simp[Pj,DY,hk];refine⟨_,ZP _ (hO _ (cT hk)),?_⟩;simp[ho]
 ·simp only[aG] at hj;rw[hj];simp[Pj,DY]
def yE (r:Realm)(f:File):Bool:=rl r f&&decide (l6 r=0)
def mV (n:Int):Int:=min (max n (-1099511627776)) 1099511627776
theorem Jk (n:Int):ak T1 178 [.int n] (.int (mV n)):=by
 refine .of_tree rfl acZ ap6 ?_;simp[RU,mV];by_cases h1:-1099511627776>n
 ·have:¬(1099511627776:Int)< -1099511627776:=by omega
  simp[h1];omega
 ·by_cases h2:(1099511627776:Int)<n
  ·simp[h1,h2];omega
  ·simp[h1,h2];omega
theorem aoj (n:Int):ak T 178 [.int n] (.int (mV n)):=P1 rfl (Jk n)
def kC (v:Int):Int×Bool:=if v<0∨19<v then(0,false) else if v<7 then(0,true) else(1,true)
theorem aaY (v:Int):ak T1 176 [.int v] (.tup [.int (kC v).1,.bool (kC v).2]):=by
 refine .of_tree rfl acW ap2 ?_;simp[RQ,kC];by_cases h1:v<0
 ·simp[h1]
 by_cases h2:19<v
 ·simp[h1,h2]
 by_cases h3:v<7
 ·simp[h1,h2,h3]
 ·simp[h1,h2,h3]
theorem aog (v:Int):ak T 176 [.int v] (.tup [.int (kC v).1,.bool (kC v).2]):=P1 rfl (aaY v)
def C4 (t:Tm):Int×Int:=
 if 0<t.args.length then(0,2) else if t.op=0 then(if mV t.n≠t.n then(0,3) else(0,0)) else if t.op=1 then(if t.n<0∨1<t.n then(0,3) else(1,0)) else if(kC t.n).2=false then(0,10) else((kC t.n).1,0)
theorem aok (t:Tm):ak T 174 [df t] (.tup [.int (C4 t).1,.int (C4 t).2]):=by
 refine .of_tree rfl (lA 34 (by kernel_rfl)) ap7 ?_;simp[RV,C4];by_cases h0:0<t.args.length
 ·have fL:(0:Int)<t.args.length:=by omega
  simp[h0,fL]
 simp[h0];by_cases h1:t.op=0
 ·simp[h1];refine⟨_,aoj _,?_⟩;by_cases h2:mV t.n=t.n<;>simp[h2]
 by_cases h2:t.op=1
 ·simp[h1,h2];by_cases h3:t.n<0<;>by_cases h4:1<t.n<;>simp[h3,h4]
 simp[h1,h2];refine⟨_,aog _,?_⟩;cases h3:(kC t.n).2<;>simp[h3]
def eQ (op:Int):List Int×Int:=
 if op=3 then([1],1) else if op=4∨op=5 then([1,1],1) else if op=6 then([1,-1,-1],-1) else if op=7 then([0,0],1) else if op=8 then([-1,-1],1) else([0,0],0)
def BK (s:List Int×Int):D:=.agg [ints s.1,.int s.2]
@[simp] theorem ast (s:List Int×Int):(BK s).cells=[ints s.1,.int s.2]:=_root_.id rfl
@[simp] theorem asr (s:List Int×Int):(BK s).c 0=ints s.1:=_root_.id rfl
@[simp] theorem ass (s:List Int×Int):(BK s).c 1=.int s.2:=_root_.id rfl
@[simp] theorem av0 (s:List Int×Int):D.agg [ints s.1,.int s.2]=BK s:=_root_.id rfl
@[simp] theorem awW (x y:Int):uk (.int x) 0 (.int y)=.int y:=_root_.id rfl
theorem aon (op:Int):ak T 175 [.int op] (BK (eQ op)):=by
 refine .of_tree rfl (lA 35 (by kernel_rfl)) aqb ?_;simp[RY,eQ];by_cases h3:op=3
 ·simp[h3];rfl
 by_cases h4:op=4
 ·simp[h4];rfl
 by_cases h5:op=5
 ·simp[h5];rfl
 by_cases h6:op=6
 ·simp[h6];rfl
 by_cases h7:op=7
 ·simp[h7];rfl
 by_cases h8:op=8
 ·simp[h8];rfl
 simp[h3,h4,h5,h6,h7,h8];rfl
end Rm
namespace Rm
open Go Go.Proofs Cx
def fB (f:Tm→Int):List Tm→Int→Int
 |[],n=>n
 |a::l,n=>if 60<n+f a then n+f a else fB f l (n+f a)
def cG:Nat→Tm→Int
 |0,_=>61
 |L+1,t=>fB (cG L) t.args 1
def dF (f:Tm→Int)(l:List Tm):Int:=(l.map f).sum
theorem HK {f:Tm→Int}{l:List Tm}{k:Nat}(h:k<l.length):dF f (l.take (k+1))=dF f (l.take k)+f l[k]:=by
 unfold dF;rw[Ap f h,List.sum_append];simp
theorem Xe {f:Tm→Int}:∀{l:List Tm} {n:Int} {k:Nat},(hk:k<l.length)→(∀j,j<k→n+dF f (l.take (j+1))≤60)→60<n+dF f (l.take (k+1))→fB f l n=n+dF f (l.take (k+1))
 |a::l,n,0,hk,_,h=>by
  simp[dF] at h ⊢;unfold fB;rw[if_pos (by omega)]
 |a::l,n,k+1,hk,hj,h=>by
  have h0:=hj 0 (by omega);simp[dF] at h0;unfold fB;rw[if_neg (by omega)];have e:∀j,n+dF f ((a::l).take (j+1+1))=n+f a+dF f (l.take (j+1)):=by intro j;simp[dF];omega
  rw[Xe (l:=l) (k:=k) (by simpa using hk) (fun j G6=>by have:=hj (j+1) (by omega);rw[e] at this;exact this) (by rw[←e];exact h),e]
theorem Xg {f:Tm→Int}:∀{l:List Tm} {n:Int},(∀j,j<l.length→n+dF f (l.take (j+1))≤60)→fB f l n=n+dF f l
 |[],n,_=>by simp[fB,dF]
 |a::l,n,hj=>by
  have h0:=hj 0 (by simp);simp[dF] at h0;unfold fB;rw[if_neg (by omega)];have e:∀j,n+dF f ((a::l).take (j+1+1))=n+f a+dF f (l.take (j+1)):=by intro j;simp[dF];omega
  rw[Xg (l:=l) (fun j fN=>by have:=hj (j+1) (by simpa using fN);rw[e] at this;exact this)];simp[dF];omega
theorem Xf {f:Tm→Int}(hf:∀a,1≤f a):∀{l:List Tm} {n:Int},n≤fB f l n
 |[],n=>by simp[fB]
 |a::l,n=>by
  unfold fB;have:=hf a;split
  ·omega
  ·have:=Xf hf (l:=l) (n:=n+f a);omega
theorem v8:∀(L:Nat) (t:Tm),1≤cG L t
 |0,t=>by simp[cG]
 |L+1,t=>Xf (v8 L)
theorem Xh {f:Tm→Int}{B:Int}(hf:∀a,f a≤B)(hB:0≤B):∀{l:List Tm} {n:Int},n≤60→fB f l n≤60+B
 |[],n,h=>by simp[fB];omega
 |a::l,n,h=>by
  unfold fB;have:=hf a;split
  ·omega
  ·exact Xh hf hB (by omega)
theorem Xj:∀(L:Nat) (t:Tm),cG L t≤61+60*L
 |0,t=>by simp[cG]
 |L+1,t=>by
  have:=Xh (f:=cG L) (fun a=>Xj L a) (by omega) (l:=t.args) (n:=1) (by omega);show fB _ _ _≤_;omega
theorem Xi {f:Tm→Int}(hf:∀a,1≤f a):∀{l:List Tm} {n:Int},fB f l n≤60→(n:Int)+l.length≤60∧∀a,a∈l→f a≤60-n
 |[],n,h=>by simp[fB] at h ⊢;exact h
 |a::l,n,h=>by
  unfold fB at h;have:=hf a;split at h
  ·omega
  ·obtain⟨h1,h2⟩:=Xi hf h;refine⟨by simp;omega,fun b hb=>?_⟩;rcases cM.1 hb with rfl|hb
   ·omega
   ·have:=h2 b hb;omega
theorem Nw {L:Nat}{t:Tm}(h:cG (L+1) t≤60):t.args.length≤59∧∀a,a∈t.args→cG L a≤60:=by
 obtain⟨h1,h2⟩:=Xi (v8 L) h;exact⟨by omega,fun a ha=>by have:=h2 a ha;omega⟩
theorem Qd:∀(L:Nat) (t:Tm) (lv:Int),t.OK→L≤8→lv=9-(L:Int)→ak T 152 [df t,.int lv] (.int (cG L t))
 |0,t,lv,ht,hL,L5=>by
  refine .of_tree rfl Tt aa9 ?_;subst L5;simp[Jw,cG]
 |L+1,t,lv,ht,hL,L5=>by
  refine .of_tree rfl Tt aa9 ?_;have hl:=ht.len;have h8:¬(8<lv):=by omega
  have Hr:IntKind.i64.wrap (lv+1)=lv+1:=cY (by omega);simp[Jw,h8];refine .scan t.args.length (fun k=>1+dF (cG L) (t.args.take (k+1))≤60) (fun k=>[.int (1+dF (cG L) (t.args.take k)),.int k]) (fun _=>[]) ?_ (fun k hk hj ho=>?_) (fun k hk hj ho=>?_) (fun hj=>?_)
  ·simp[dF]
  all_goals try rw[HK hk] at ho
  ·have hw:IntKind.i64.wrap ((k:Int)+1)=(k:Int)+1:=cY (by omega);have gh:=Qd L t.args[k] (lv+1) (ht.arg (cT hk)) (by omega) (by omega);rw[HK hk];have hs:0≤dF (cG L) (t.args.take k):=by
    unfold dF;have:∀(l:List Tm),0≤(l.map (cG L)).sum:=by
     intro l
     induction l with
     |nil=>simp
     |cons a l ih=>have:=v8 L a;simp;omega
    exact this _
   have dJ:=v8 L t.args[k];generalize dF (cG L) (t.args.take k)=m at*;generalize cG L t.args[k]=v at*;have rI:IntKind.i64.wrap (1+m+v)=1+m+v:=cY (by omega);have dQ:¬60<1+m+v:=by omega
   simp[PM,Em,hk,Hr];refine⟨_,gh,?_⟩;simp[rI,dQ,hw];omega
  ·have gh:=Qd L t.args[k] (lv+1) (ht.arg (cT hk)) (by omega) (by omega);have hf:cG (L+1) t=1+dF (cG L) (t.args.take (k+1)):=Xe hk hj (by rw[HK hk];omega);rw[hf,HK hk];have hs:0≤dF (cG L) (t.args.take k)∧1+dF (cG L) (t.args.take k)≤60:=by
    constructor
    ·unfold dF;have:∀(l:List Tm),0≤(l.map (cG L)).sum:=by
       intro l
       induction l with
       |nil=>simp
       |cons a l ih=>have:=v8 L a;simp;omega
     exact this _
    ·cases k with
     |zero=>simp[dF]
     |succ k=>exact hj k (by omega)
   have dJ:=v8 L t.args[k];have bT:=Xj L t.args[k];generalize dF (cG L) (t.args.take k)=m at*;generalize cG L t.args[k]=v at*;have rI:IntKind.i64.wrap (1+m+v)=1+m+v:=cY (by omega);have dQ:60<1+m+v:=by omega
   simp[PM,Em,hk,Hr];refine⟨_,gh,?_⟩;simp[rI,dQ];omega
  ·have hf:cG (L+1) t=1+dF (cG L) t.args:=Xg hj;rw[hf];simp[PM,Em]
def my (ws ts:List Int):Nat→Int
 |0=>-1
 |k+1=>if ws.getD k 0=-1∧my ws ts k=-1 then ts.getD k 0 else my ws ts k
def nq (ws ts:List Int)(k:Nat):Bool:=if ws.getD k 0=-1 then decide (my ws ts k=-1)||decide (ts.getD k 0=my ws ts k) else decide (ts.getD k 0=ws.getD k 0)
def we (t:Tm)(ks:List Int):Int×Int:=
 if t.op<0∨13<t.op then(0,1) else if t.op=0∨t.op=1∨t.op=2 then C4 t else
 if ks.length≠(eQ t.op).1.length∨t.n≠0 then(0,2) else
 if eg (eQ t.op).1.length (nq (eQ t.op).1 ks)=false then(0,11) else if(eQ t.op).2=-1 then(my (eQ t.op).1 ks (eQ t.op).1.length,0) else((eQ t.op).2,0)
def bW:Nat→Tm→Int×Int
 |0,_=>(0,0)
 |L+1,t=>if kI t.args.length (fun k=>(bW L (t.args.getD k default)).2)≠0 then(0,kI t.args.length (fun k=>(bW L (t.args.getD k default)).2)) else we t (t.args.map fun a=>(bW L a).1)
theorem KS (L:Nat)(t:Tm):bW (L+1) t=if kI t.args.length (fun k=>(bW L (t.args.getD k default)).2)≠0 then(0,kI t.args.length (fun k=>(bW L (t.args.getD k default)).2)) else we t (t.args.map fun a=>(bW L a).1):=rfl
theorem P4 {α:Type}(A:List α)(z:α){k n:Nat}(hA:A.length=n)(hk:k<n):(A.take k++List.replicate (n-k) z).set k A[k]=A.take (k+1)++List.replicate (n-(k+1)) z:=by
 have h1:(A.take k).length=k:=by rw[dN];omega
 rw[List.set_append_right _ _ (by omega),h1,JU];have:n-k=(n-(k+1))+1:=by omega
 rw[this,List.replicate_succ,List.set_cons_zero,nP (by omega),pC];rfl
theorem anW (op:Int):(eQ op).1.length≤3:=by
 unfold eQ;repeat' split
 all_goals simp
theorem Qc:∀(L:Nat) (t:Tm),t.OK→cG L t≤60→ak T 153 [df t] (.tup [.int (bW L t).1,.int (bW L t).2])
 |0,t,ht,hm=>by simp[cG] at hm
 |L+1,t,ht,hm=>by
  refine .of_tree rfl (lA 33 (by kernel_rfl)) ap4 ?_;obtain⟨hl,hp⟩:=Nw hm;simp[RS];refine⟨by omega,?_⟩;refine ug t.args.length (fun k=>(bW L (t.args.getD k default)).2) (fun k=>[.int 0,.int 0,.int k]) (fun k=>[ints ((t.args.map fun a=>(bW L a).1).take k++List.replicate (t.args.length-k) 0)]) ?_ (fun k hk ho=>?_) (fun k hk ho hb=>?_) (fun hj=>?_)
  ·simp[ints]
  ·have hw:=bC hk (by omega);have cV:=cT hk;have gh:=Qc L t.args[k] (ht.arg cV) (hp _ cV);have hs:=P4 (t.args.map fun a=>(bW L a).1) 0 (n:=t.args.length) (by simp) hk;rw[←hs];have hlen:((t.args.map fun a=>(bW L a).1).take k++List.replicate (t.args.length-k) (0:Int)).length=t.args.length:=by simp;omega
   have hgk:(t.args.map fun a=>(bW L a).1)[k]'(by simpa using hk)=(bW L t.args[k]).1:=by simp
   rw[hgk];generalize (t.args.map fun a=>(bW L a).1).take k++List.replicate (t.args.length-k) (0:Int)=A at*;simp[hk] at ho;rw[ho] at gh;generalize (bW L t.args[k]).1=kd at*;simp[PK,Ek,hk];refine⟨_,gh,?_⟩;simp[hlen,hk,hw,ints]
  ·have cV:=cT hk;have gh:=Qc L t.args[k] (ht.arg cV) (hp _ cV);have hf:bW (L+1) t=(0,(bW L (t.args.getD k default)).2):=by
    rw[KS,hb,if_pos ho]
   rw[hf];simp[hk] at ho ⊢;simp[PK,Ek,hk];refine⟨_,gh,?_⟩;simp[ho]
  ·have hf:bW (L+1) t=we t (t.args.map fun a=>(bW L a).1):=by
    rw[KS,hj];simp
   rw[hf]
   have e0:(t.args.map fun a=>(bW L a).1).take t.args.length++List.replicate (t.args.length-t.args.length) 0=t.args.map fun a=>(bW L a).1:=by
    rw[JU,AM (by simp)];simp
   rw[e0];have VB:(t.args.map fun a=>(bW L a).1).length=t.args.length:=by simp
   generalize (t.args.map fun a=>(bW L a).1)=ks at*;simp[PK,Ek];unfold we;by_cases h1:t.op<0
   ·simp[h1]
   by_cases h2:13<t.op
   ·simp[h1,h2]
   simp[h1,h2];by_cases h3:t.op=0∨t.op=1∨t.op=2
   ·have gd:(t.op=0∨t.op=1)∨t.op=2:=by omega
    simp[h3,gd];refine⟨_,aok t,?_⟩;simp
   have gd:¬((t.op=0∨t.op=1)∨t.op=2):=by omega
   simp[h3,gd];refine⟨_,aon _,?_⟩;have hsl:=anW t.op;generalize eQ t.op=sh at*;simp;by_cases h4:ks.length=sh.1.length
   case neg=>
    have yH:¬((ks.length:Int)=sh.1.length):=by omega
    have GG:¬t.args.length=sh.1.length:=by omega
    simp[h4,yH,GG]
   have yH:(ks.length:Int)=sh.1.length:=by omega
   have GG:t.args.length=sh.1.length:=by omega
   by_cases h5:t.n=0
   case neg=>simp[h4,yH,GG,h5]
   simp[h4,yH,GG,h5];refine fU sh.1.length (nq sh.1 ks) (fun k=>[.int 0,.int 0,.int (my sh.1 ks k),.int k]) (fun _=>[]) ?_ (fun k hk ho=>?_) (fun k hk ho hb=>?_) (fun hj=>?_)
   ·simp[my]
   ·have hw:=bC hk (by omega);have cH:k<ks.length:=by omega
    simp only[my];unfold nq at ho;simp only[aG,bq hk,bq cH,jH] at ho ⊢;generalize my sh.1 ks k=c at*;by_cases a1:sh.1[k]=-1
    ·by_cases a2:c=-1
     ·simp[Af,ua,hk,cH,hw,ints,a1,a2]
     ·simp[a1,a2] at ho;simp[Af,ua,hk,cH,hw,ints,a1,a2,ho]
    ·simp[a1] at ho;simp[Af,ua,hk,cH,hw,ints,a1,ho]
   ·rw[hb];have cH:k<ks.length:=by omega
    unfold nq at ho;simp only[aG,bq hk,bq cH,jH] at ho;generalize my sh.1 ks k=c at*;by_cases a1:sh.1[k]=-1
    ·by_cases a2:c=-1
     ·simp[a1,a2] at ho
     ·simp[a1,a2] at ho;simp[Af,ua,hk,cH,ints,a1,a2,ho]
    ·simp[a1] at ho;simp[Af,ua,hk,cH,ints,a1,ho]
   ·rw[hj];simp[Af,ua];by_cases a1:sh.2=-1<;>simp[a1]
def ln (t:Tm):Int×Int:=if 60<cG 8 t then(0,6) else bW 8 t
theorem Qb (t:Tm)(ht:t.OK):ak T 115 [df t] (.tup [.int (ln t).1,.int (ln t).2]):=by
 refine .of_tree rfl (lA 31 (by kernel_rfl)) ap0 ?_;simp[RO,ln];refine⟨_,Qd 8 t 1 ht (by omega) (by omega),?_⟩;by_cases h:60<cG 8 t
 ·simp[h]
 simp[h];refine⟨_,Qc 8 t ht (by omega),?_⟩;simp
end Rm
namespace Rm
open Go Go.Proofs Cx
abbrev u (n:Nat):D:=.v (.int .u64 n)
theorem abT (n:Int):IntKind.u64.wrap n=n%18446744073709551616:=rfl
theorem EM {n:Int}(h:0≤n∧n<18446744073709551616):IntKind.u64.wrap n=n:=by
 rw[abT];omega
theorem w6 {n:Nat}(h:n<18446744073709551616):IntKind.u64.wrap (n:Int)=n:=EM (by omega)
theorem anX (a s:Nat)(h:s≤64):eH .shr .u64 a s=((a/2^s:Nat):Int):=by
 show Int.fdiv (a:Int) (2^(min (s:Int).toNat 64))=_;have:min (s:Int).toNat 64=s:=by simp;omega
 rw[this,acb _ (Int.le_of_lt (Int.pow_pos (by decide)))];rw[Int.natCast_ediv,Int.natCast_pow];rfl
theorem J6 (a:Nat)(h:a<18446744073709551616):eH .and .u64 a 4294967295=((a%4294967296:Nat):Int):=by
 show IntKind.u64.wrap ((BitVec.ofInt 64 (a:Int)&&& BitVec.ofInt 64 4294967295).toNat:Nat)=_;have e:(BitVec.ofInt 64 (a:Int)&&& BitVec.ofInt 64 4294967295).toNat=a%4294967296:=by
  rw[BitVec.toNat_and];have e1:(BitVec.ofInt 64 (a:Int)).toNat=a:=by simp[BitVec.ofInt,BitVec.toNat_ofNat];omega
  have e2:(BitVec.ofInt 64 4294967295).toNat=2^32-1:=by decide
  rw[e1,e2,Nat.and_two_pow_sub_one_eq_mod]
 rw[e,w6 (by omega)]
@[simp] theorem An (a:Nat):eH .shr .u64 a 32=((a/4294967296:Nat):Int):=anX a 32 (by decide)
set_option maxHeartbeats 2000000 in
theorem alj (a b:Nat)(ha:a<18446744073709551616)(hb:b<18446744073709551616):ak T1 217 [u a,u b] (.tup [u (a*b/18446744073709551616),u (a*b%18446744073709551616)]):=by
 refine .of_tree rfl acU aoC ?_;obtain⟨h1,h2,h3,h4⟩:=Go.Lib.mul64_hi a b ha hb;have elo:IntKind.u64.wrap ((a:Int)*(b:Int))=((a*b%18446744073709551616:Nat):Int):=by rw[abT,Int.natCast_emod,Int.natCast_mul];rfl
 have K6:eH .shr .u64 (a:Int) 32=((a/4294967296:Nat):Int):=An a;have ea0:eH .and .u64 (a:Int) 4294967295=((a%4294967296:Nat):Int):=J6 a ha;have K7:eH .shr .u64 (b:Int) 32=((b/4294967296:Nat):Int):=An b;have eb0:eH .and .u64 (b:Int) 4294967295=((b%4294967296:Nat):Int):=J6 b hb;have avd:=Go.Lib.half_mul_le (a:=a/4294967296) (b:=b/4294967296) (by omega) (by omega);have avc:=Go.Lib.half_mul_le (a:=a/4294967296) (b:=b%4294967296) (by omega) (by omega);have avb:=Go.Lib.half_mul_le (a:=a%4294967296) (b:=b/4294967296) (by omega) (by omega);have ava:=Go.Lib.half_mul_le (a:=a%4294967296) (b:=b%4294967296) (by omega) (by omega);have LZ:a*b/18446744073709551616<18446744073709551616:=by
  have:a*b<18446744073709551616*18446744073709551616:=Nat.mul_lt_mul'' ha hb;exact Nat.div_lt_of_lt_mul this
 simp only[Qr];generalize a/4294967296=a1 at*;generalize a%4294967296=a0 at*;generalize b/4294967296=b1 at*;generalize b%4294967296=b0 at*;have p11:IntKind.u64.wrap ((a1:Int)*(b1:Int))=((a1*b1:Nat):Int):=by rw[←Int.natCast_mul];exact w6 (by omega)
 have p10:IntKind.u64.wrap ((a1:Int)*(b0:Int))=((a1*b0:Nat):Int):=by rw[←Int.natCast_mul];exact w6 (by omega)
 have p01:IntKind.u64.wrap ((a0:Int)*(b1:Int))=((a0*b1:Nat):Int):=by rw[←Int.natCast_mul];exact w6 (by omega)
 have p00:IntKind.u64.wrap ((a0:Int)*(b0:Int))=((a0*b0:Nat):Int):=by rw[←Int.natCast_mul];exact w6 (by omega)
 rw[←h4] at LZ ⊢;generalize a1*b1=P at*;generalize a1*b0=Q at*;generalize a0*b1=R at*;generalize a0*b0=S at*;have s1:eH .shr .u64 (S:Int) 32=((S/4294967296:Nat):Int):=An S;have s2:IntKind.u64.wrap ((Q:Int)+((S/4294967296:Nat):Int))=((Q+S/4294967296:Nat):Int):=by rw[EM (by omega)];omega
 generalize S/4294967296=S1 at*;generalize hT:Q+S1=TT at*;have s3:eH .shr .u64 (TT:Int) 32=((TT/4294967296:Nat):Int):=An TT;have s4:eH .and .u64 (TT:Int) 4294967295=((TT%4294967296:Nat):Int):=J6 TT (by omega);have s5:IntKind.u64.wrap (((TT%4294967296:Nat):Int)+(R:Int))=((TT%4294967296+R:Nat):Int):=by rw[EM (by omega)];omega
 generalize hU:TT%4294967296+R=U at*;have s6:eH .shr .u64 (U:Int) 32=((U/4294967296:Nat):Int):=An U;have s7:IntKind.u64.wrap ((P:Int)+((TT/4294967296:Nat):Int))=((P+TT/4294967296:Nat):Int):=by rw[EM (by omega)];omega
 have s8:IntKind.u64.wrap (((P+TT/4294967296:Nat):Int)+((U/4294967296:Nat):Int))=((P+TT/4294967296+U/4294967296:Nat):Int):=by rw[EM (by omega)];omega
 simp[-An,-Int.natCast_add,-Int.natCast_mul,-Int.natCast_ediv,-Int.natCast_emod,elo,K6,ea0,K7,eb0,p11,p10,p01,p00,s1,s2,s3,s4,s5,s6,s7,s8]
def rV (m:Nat):Int:=if m<1099511627776 then m else 1099511627776
def zP (a b:Int):Int:=if(decide (a<0)!=decide (b<0))=true then-rV (a.natAbs*b.natAbs) else rV (a.natAbs*b.natAbs)
theorem Zk (m:Nat):0≤rV m∧rV m≤1099511627776:=by unfold rV;split<;>omega
set_option maxHeartbeats 1000000 in
theorem aol (a b:Int)(ha:-1099511627776≤a∧a≤1099511627776)(hb:-1099511627776≤b∧b≤1099511627776):ak T1 209 [.int a,.int b] (.int (zP a b)):=by
 refine .of_tree rfl ac2 aqa ?_;have wa:IntKind.u64.wrap (a.natAbs:Int)=a.natAbs:=w6 (by omega);have wb:IntKind.u64.wrap (b.natAbs:Int)=b.natAbs:=w6 (by omega);have w0a:IntKind.i64.wrap (0-a)=-a:=by rw[cY (by omega)];omega
 have w0b:IntKind.i64.wrap (0-b)=-b:=by rw[cY (by omega)];omega
 have aqy:IntKind.i64.wrap (-a)=-a:=cY (by omega);have aqz:IntKind.i64.wrap (-b)=-b:=cY (by omega);have ea:(if a< -a then D.int (-a) else D.int a)=D.int a.natAbs:=by split<;>congr 1<;>omega
 have eb:(if b< -b then D.int (-b) else D.int b)=D.int b.natAbs:=by split<;>congr 1<;>omega
 have ea':(if a< -a then-a else a)=(a.natAbs:Int):=by split<;>omega
 have eb':(if b< -b then-b else b)=(b.natAbs:Int):=by split<;>omega
 simp[RX,aqy,aqz,ea,eb,ea',eb'];rw[wa,wb];refine⟨_,alj a.natAbs b.natAbs (by omega) (by omega),?_⟩;unfold zP;generalize a.natAbs*b.natAbs=m;have hs:(decide (a<0)!=decide (b<0))=false↔(a<0↔b<0):=by
  by_cases h1:a<0<;>by_cases h2:b<0<;>simp[h1,h2]
 have key:((if((m/18446744073709551616:Nat):Int)=0∧((m%18446744073709551616:Nat):Int)<1099511627776 then IntKind.i64.wrap ((m%18446744073709551616:Nat):Int) else 1099511627776):Int)=rV m:=by
  unfold rV;by_cases hm:m<1099511627776
  ·have h1:m/18446744073709551616=0:=by omega
   have h2:m%18446744073709551616=m:=by omega
   rw[h1,h2,if_pos ⟨rfl,by omega⟩,if_pos hm,cY (by omega)]
  ·rw[if_neg hm,if_neg];rintro⟨h1,h2⟩;omega
 have eh:=Zk m;have ajW:(if((m/18446744073709551616:Nat):Int)=0∧((m%18446744073709551616:Nat):Int)<1099511627776 then D.int (IntKind.i64.wrap ((m%18446744073709551616:Nat):Int)) else D.int 1099511627776)=D.int (rV m):=by
  rw[←key];split<;>rfl
 show(if a<0↔b<0 then(if((m/18446744073709551616:Nat):Int)=0∧((m%18446744073709551616:Nat):Int)<1099511627776 then D.int (IntKind.i64.wrap ((m%18446744073709551616:Nat):Int)) else D.int 1099511627776)=_ else
  IntKind.i64.wrap (-(if((m/18446744073709551616:Nat):Int)=0∧((m%18446744073709551616:Nat):Int)<1099511627776 then IntKind.i64.wrap ((m%18446744073709551616:Nat):Int) else 1099511627776))=_)
 rw[ajW,key];generalize rV m=n at*;split
 ·rename_i h;rw[hs.2 h];simp
 ·rename_i h;have:(decide (a<0)!=decide (b<0))=true:=by
   cases e:(decide (a<0)!=decide (b<0)) with
   |true=>rfl
   |false=>exact absurd (hs.1 e) h
  rw[this,cY (by omega)];simp
def xp (op a b:Int):Int:=if op=9 then mV (a+b) else if op=10 then mV (a-b) else if op=11 then zP a b else if op=12 then min a b else max a b
theorem aoh (op a b:Int)(ha:-1099511627776≤a∧a≤1099511627776)(hb:-1099511627776≤b∧b≤1099511627776):ak T1 179 [.int op,.int a,.int b] (.int (xp op a b)):=by
 refine .of_tree rfl acX ap3 ?_;have w1:IntKind.i64.wrap (a+b)=a+b:=cY (by omega);have w2:IntKind.i64.wrap (a-b)=a-b:=cY (by omega);simp[RR,xp,w1,w2];by_cases h1:op=9
 ·simp[h1];exact Jk _
 by_cases h2:op=10
 ·simp[h1,h2];exact Jk _
 by_cases h3:op=11
 ·simp[h1,h2,h3];exact aol a b ha hb
 by_cases h4:op=12
 ·simp[h1,h2,h3,h4];by_cases h5:b<a<;>simp[h5]<;>omega
 simp[h1,h2,h3,h4];by_cases h5:b>a<;>simp[h5]<;>omega
def gH (b:Bool):Cell:=if b then⟨true,1⟩ else⟨true,0⟩
theorem um (b:Bool):ak T1 177 [.bool b] (cN (gH b)):=by
 refine .of_tree rfl ac3 aqc ?_;cases b<;>simp[RZ,gH]<;>rfl
def dU:Cell:=⟨false,0⟩
@[simp] theorem av4:D.agg [.bool false,.int 0]=cN dU:=_root_.id rfl
@[simp] theorem av5:dU.known=false:=rfl
@[simp] theorem av6:dU.n=0:=rfl
def cellAt (cs:List Cell)(v:Int):Cell:=cs.getD v.toNat default
def j3 (cs:List Cell)(v:Int):Cell:=if cs.length≤v.toNat∨(cellAt cs v).known=false then dU else if(kC v).1=1 then gH (decide ((cellAt cs v).n≠0)) else⟨true,mV (cellAt cs v).n⟩
abbrev Gm (cs:List Cell):D:=.agg [cells cs]
theorem aoo (cs:List Cell)(v:Int)(hv:0≤v):ak T1 154 [Gm cs,.int v] (cN (j3 cs v)):=by
 refine .of_tree rfl ac1 ap9 ?_;obtain⟨k,rfl⟩:=uC hv;simp[RW,j3,cellAt];by_cases h1:cs.length≤k
 ·simp[h1]
 have cB:k<cs.length:=by omega
 simp[h1,cB];cases h2:cs[k].known
 ·simp[h2]
 simp[h2];refine⟨_,aaY _,?_⟩;by_cases h3:(kC k).1=1
 ·simp[h3,cB];refine⟨_,um _,?_⟩;simp;rfl
 ·simp[h3,cB];refine⟨_,Jk _,?_⟩;simp;rfl
@[simp] theorem avt (a b:Int):(a==b)=decide (a=b):=_root_.id rfl
@[simp] theorem avu (a b:Int):(a !=b)= !decide (a=b):=_root_.id rfl
def bh (l:List Cell)(k:Nat):Cell:=l.getD k default
def gL (op:Int)(l:List Cell):Cell:=
 if op=3 then(if(bh l 0).known=true then gH (decide ((bh l 0).n=0)) else dU)
 else if(op=4∨op=5)∧(bh l 0=gH (decide (op=5))∨bh l 1=gH (decide (op=5))) then gH (decide (op=5))
 else if op=6 then(if(bh l 1).known=true∧bh l 1=bh l 2 then bh l 1 else dU)
 else if(bh l 0).known=false∨(bh l 1).known=false then dU
 else if op=4∨op=5 then gH (decide (op=4))
 else if op=7 then gH (decide ((bh l 0).n<(bh l 1).n)) else if op=8 then gH (decide ((bh l 0).n=(bh l 1).n)) else⟨true,xp op (bh l 0).n (bh l 1).n⟩
theorem adC (a b:Cell):a=b↔a.known=b.known∧a.n=b.n:=by cases a;cases b;simp
theorem aoi (op:Int)(l:List Cell)(h1:1≤l.length)(h2:op≠3→2≤l.length)(h3:op=6→3≤l.length)
 (hb:9≤op→(-1099511627776≤(bh l 0).n∧(bh l 0).n≤1099511627776)∧(-1099511627776≤(bh l 1).n∧(bh l 1).n≤1099511627776)) (h9:op<3∨8<op→9≤op):
 ak T1 155 [.int op,cells l] (cN (gL op l)):=by
 refine .of_tree rfl acY ap5 ?_;have g0:0<l.length:=by omega
 have ve:l[0]=bh l 0:=by simp[bh,g0]
 simp[RT];unfold gL;by_cases o3:op=3
 ·simp[o3,g0,ve];cases e:(bh l 0).known
  ·simp
  ·simp[g0];refine⟨_,um _,?_⟩;simp
 have g1:1<l.length:=by have:=h2 o3;omega
 have B0:l[1]=bh l 1:=by simp[bh,g1]
 have gO:(1:Int)<l.length:=by omega
 simp[o3];have fin:∀a b:Cell,(a=b)=(a.known=b.known∧a.n=b.n):=fun a b=>propext (adC a b);rcases ES (op=4) with o4|o4
 ·subst o4;simp;refine⟨_,um _,?_⟩;simp[g0,g1,gO,ve,B0,fin];split
  ·rfl
  ·split
   ·rfl
   ·refine⟨_,um _,?_⟩;simp
 rcases ES (op=5) with o5|o5
 ·subst o5;simp;refine⟨_,um _,?_⟩;simp[g0,g1,gO,ve,B0,fin];split
  ·rfl
  ·split
   ·rfl
   ·refine⟨_,um _,?_⟩;simp
 rcases ES (op=6) with o6|o6
 ·subst o6;have g2:2<l.length:=by have:=h3 rfl;omega
  have gg2:l[2]=bh l 2:=by simp[bh,g2]
  have rn:(2:Int)<l.length:=by omega
  simp[g1,g2,gO,rn,B0,gg2,fin];cases e1:(bh l 1).known
  ·simp
  by_cases e2:(bh l 1).known=(bh l 2).known∧(bh l 1).n=(bh l 2).n
  ·rw[e1] at e2;simp[e1,e2]
  ·rw[e1] at e2;have sS:¬((bh l 2).known=true∧(bh l 1).n=(bh l 2).n):=fun h=>e2 ⟨h.1.symm,h.2⟩;simp only[e1,true_and,if_true]
   first|(rw[if_neg sS,if_neg sS])|(simp[sS])
 simp[o4,o5,o6,g0,g1,gO,ve,B0];cases e1:(bh l 0).known
 ·simp
 cases e2:(bh l 1).known
 ·simp
 simp[g1,gO,B0];rcases ES (op=7) with o7|o7
 ·subst o7;simp;refine⟨_,um _,?_⟩;simp
 rcases ES (op=8) with o8|o8
 ·subst o8;simp;refine⟨_,um _,?_⟩;simp
 simp[o7,o8];obtain⟨b1,b2⟩:=hb (h9 (by omega));refine⟨_,aoh op _ _ b1 b2,?_⟩;simp;rfl
end Rm
namespace Rm
open Go Go.Proofs Cx
def bE:Nat→List Cell→Tm→Cell
 |0,_,_=>dU
 |L+1,cs,t=>if t.op=0∨t.op=1 then⟨true,t.n⟩ else if t.op=2 then j3 cs t.n else
   if t.op=6∧(bh (t.args.map (bE L cs)) 0).known=true then bh (t.args.map (bE L cs)) (2-(bh (t.args.map (bE L cs)) 0).n).toNat else gL t.op (t.args.map (bE L cs))
def cP:Nat→List Cell→Tm→List Int
 |0,_,_=>[]
 |L+1,cs,t=>if t.op=0∨t.op=1 then[] else if t.op=2 then(if(j3 cs t.n).known=true then[] else[t.n]) else
   if t.op=6∧(bh (t.args.map (bE L cs)) 0).known=true then(t.args.map (cP L cs)).getD (2-(bh (t.args.map (bE L cs)) 0).n).toNat [] else
   if(gL t.op (t.args.map (bE L cs))).known=true then[] else(t.args.map (cP L cs)).flatten
theorem Gq (L:Nat)(cs:List Cell)(t:Tm):bE (L+1) cs t=if t.op=0∨t.op=1 then⟨true,t.n⟩ else if t.op=2 then j3 cs t.n else
 if t.op=6∧(bh (t.args.map (bE L cs)) 0).known=true then bh (t.args.map (bE L cs)) (2-(bh (t.args.map (bE L cs)) 0).n).toNat else gL t.op (t.args.map (bE L cs)):=rfl
theorem Db (L:Nat)(cs:List Cell)(t:Tm):cP (L+1) cs t=if t.op=0∨t.op=1 then[] else if t.op=2 then(if(j3 cs t.n).known=true then[] else[t.n]) else
 if t.op=6∧(bh (t.args.map (bE L cs)) 0).known=true then(t.args.map (cP L cs)).getD (2-(bh (t.args.map (bE L cs)) 0).n).toNat [] else
 if(gL t.op (t.args.map (bE L cs))).known=true then[] else(t.args.map (cP L cs)).flatten:=rfl
theorem Ge {L:Nat}{t:Tm}{k:Int}(h:bW (L+1) t=(k,0)):(∀a,a∈t.args→(bW L a).2=0)∧we t (t.args.map fun a=>(bW L a).1)=(k,0):=by
 rw[KS] at h;by_cases e:kI t.args.length (fun k=>(bW L (t.args.getD k default)).2)=0
 ·rw[if_neg (by simpa using e)] at h;refine⟨fun a ha=>?_,h⟩;obtain⟨j,hj,rfl⟩:=mO ha;have:=Uu.1 e j hj;simpa [hj] using this
 ·rw[if_pos e] at h;injection h with _ h
  exact absurd h e
inductive Node (ks:List Int) (t:Tm):Int→Prop where
 |int (h:t.op=0) (ha:t.args=[]) (hn:-1099511627776≤t.n∧t.n≤1099511627776):Node ks t 0
 |bool (h:t.op=1) (ha:t.args=[]) (hn:t.n=0∨t.n=1):Node ks t 1
 |var (h:t.op=2) (ha:t.args=[]) (hn:0≤t.n∧t.n≤19):Node ks t (kC t.n).1
 |not (h:t.op=3) (hk:ks=[1]):Node ks t 1
 |log (h:t.op=4∨t.op=5) (hk:ks=[1,1]):Node ks t 1
 |ite (k:Int) (h:t.op=6) (hk:ks=[1,k,k]):Node ks t k
 |less (h:t.op=7) (hk:ks=[0,0]):Node ks t 1
 |equal (k:Int) (h:t.op=8) (hk:ks=[k,k]):Node ks t 1
 |num (h:9≤t.op∧t.op≤13) (hk:ks=[0,0]):Node ks t 0
theorem aqv (v:Int):(kC v).1=0∨(kC v).1=1:=by
 unfold kC;repeat' split
 all_goals simp
theorem alv {t:Tm}{ks:List Int}{k:Int}(hl:ks.length=t.args.length)(iv:∀x,x∈ks→x=0∨x=1)(h:we t ks=(k,0)):Node ks t k:=by
 unfold we at h;split at h
 ·injection h with _ h;cases h
 rename_i bK;split at h
 ·rename_i h3;unfold C4 at h;split at h
  ·injection h with _ h;cases h
  rename_i ha0;have ha:t.args=[]:=JH (by omega);split at h
  ·rename_i h0;split at h
   ·injection h with _ h;cases h
   ·rename_i hc;injection h with h _
    subst h;refine .int h0 ha ?_;unfold mV at hc;omega
  split at h
  ·rename_i h0;split at h
   ·injection h with _ h;cases h
   ·rename_i hc;injection h with h _
    subst h;exact .bool h0 ha (by omega)
  split at h
  ·injection h with _ h;cases h
  ·rename_i g0 g1 hc;injection h with h _
   subst h;refine .var (by omega) ha ?_;unfold kC at hc;split at hc
   ·simp at hc
   ·omega
 rename_i h3;split at h
 ·injection h with _ h;cases h
 rename_i hlen;have m9:ks.length=(eQ t.op).1.length:=by
  refine AG fun hh=>hlen (.inl hh)
 split at h
 ·injection h with _ h;cases h
 rename_i au;have iI:∀j,j<(eQ t.op).1.length→nq (eQ t.op).1 ks j=true:=xn.1 (by simpa using au)
 have two:∀{n:Nat},ks.length=2→∃a b,ks=[a,b]:=fun h=>by
  match ks,h with
  |[a,b],_=>exact⟨a,b,rfl⟩
 by_cases o3:t.op=3
 ·have e:eQ t.op=([1],1):=by simp[eQ,o3]
  rw[e] at m9 iI h
  match ks,m9 with
  |[a],_=>
   have:=iI 0 (by simp);simp[nq] at this;simp at h;subst h this;exact .not o3 rfl
 by_cases HS:t.op=4∨t.op=5
 ·have e:eQ t.op=([1,1],1):=by simp[eQ,o3,HS]
  rw[e] at m9 iI h
  match ks,m9 with
  |[a,b],_=>
   have t1:=iI 0 (by simp);have t2:=iI 1 (by simp);simp[nq] at t1 t2;simp at h;subst h t1 t2;exact .log HS rfl
 by_cases o6:t.op=6
 ·have e:eQ t.op=([1,-1,-1],-1):=by simp[eQ,o6]
  rw[e] at m9 iI h
  match ks,m9,iv with
  |[a,b,c],_,iv=>
   have t1:=iI 0 (by simp);have t3:=iI 2 (by simp);have hb:=iv b (by simp);have pX:¬b=-1:=by omega
   simp[nq] at t1;simp[nq,my,pX] at t3;simp[my,pX] at h;subst h t1 t3;exact .ite _ o6 rfl
 by_cases o7:t.op=7
 ·have e:eQ t.op=([0,0],1):=by simp[eQ,o7]
  rw[e] at m9 iI h
  match ks,m9 with
  |[a,b],_=>
   have t1:=iI 0 (by simp);have t2:=iI 1 (by simp);simp[nq] at t1 t2;simp at h;subst h t1 t2;exact .less o7 rfl
 by_cases o8:t.op=8
 ·have e:eQ t.op=([-1,-1],1):=by simp[eQ,o8]
  rw[e] at m9 iI h
  match ks,m9,iv with
  |[a,b],_,iv=>
   have t2:=iI 1 (by simp);have ha:=iv a (by simp);have han:¬a=-1:=by omega
   simp[nq,my,han] at t2;simp at h;subst h t2;exact .equal _ o8 rfl
 have e:eQ t.op=([0,0],0):=by simp[eQ,o3,HS,o6,o7,o8]
 rw[e] at m9 iI h
 match ks,m9 with
 |[a,b],_=>
  have t1:=iI 0 (by simp);have t2:=iI 1 (by simp);simp[nq] at t1 t2;simp at h;subst h t1 t2;exact .num (by omega) rfl
theorem Gf:∀{L:Nat} {t:Tm} {k:Int},bW (L+1) t=(k,0)→Node (t.args.map fun a=>(bW L a).1) t k∧(k=0∨k=1)
 |L,t,k,h=>by
  obtain⟨h1,h2⟩:=Ge h
  have iv:∀x,x∈(t.args.map fun a=>(bW L a).1)→x=0∨x=1:=by
   intro x hx;obtain⟨a,ha,rfl⟩:=dP.1 hx;cases L with
   |zero=>exact .inl rfl
   |succ L=>exact(Gf (L:=L) (t:=a) (k:=(bW (L+1) a).1) (by rw[←h1 a ha])).2
  have hn:=alv (by simp) iv h2;refine⟨hn,?_⟩;cases hn with
  |int=>simp
  |bool=>simp
  |var=>exact aqv _
  |not=>simp
  |log=>simp
  |ite k _ hk=>exact iv k (by rw[hk];simp)
  |less=>simp
  |equal=>simp
  |num=>simp
end Rm
namespace Rm
open Go Go.Proofs Cx
def uJ (k:Int)(c:Cell):Prop:=(c.known=false→c=dU)∧(c.known=true→(k=1→c.n=0∨c.n=1)∧(k=0→-1099511627776≤c.n∧c.n≤1099511627776))
theorem ub (k:Int):uJ k dU:=⟨fun _=>rfl,fun h=>by cases h⟩
theorem Ai (b:Bool):uJ 1 (gH b):=⟨fun h=>(by cases b<;>cases h),fun _=>⟨fun _=>(by cases b<;>simp[gH]),fun h=>by cases h⟩⟩
theorem KY (n:Int):-1099511627776≤mV n∧mV n≤1099511627776:=by unfold mV;omega
theorem anC (cs:List Cell)(v:Int)(hv:0≤v∧v≤19):uJ (kC v).1 (j3 cs v):=by
 unfold j3;split
 ·exact ub _
 ·split
  ·rename_i h;rw[h];exact Ai _
  ·rename_i h;refine⟨fun h=>(by cases h),fun _=>⟨fun h'=>absurd h' h,fun _=>KY _⟩⟩
theorem amB (a b:Int):-1099511627776≤zP a b∧zP a b≤1099511627776:=by
 unfold zP;have:=Zk (a.natAbs*b.natAbs);split<;>omega
theorem acI (op a b:Int)(ha:-1099511627776≤a∧a≤1099511627776)(hb:-1099511627776≤b∧b≤1099511627776):-1099511627776≤xp op a b∧xp op a b≤1099511627776:=by
 unfold xp;split
 ·exact KY _
 split
 ·exact KY _
 split
 ·exact amB _ _
 split<;>omega
theorem ak6 {α β:Type}{f:α→β}{l:List α}{x:β}(h:l.map f=[x]):∃a,l=[a]∧f a=x:=by
 match l,h with
 |[a],h=>exact⟨a,rfl,by simpa using h⟩
theorem zl {α β:Type}{f:α→β}{l:List α}{x y:β}(h:l.map f=[x,y]):∃a b,l=[a,b]∧f a=x∧f b=y:=by
 match l,h with
 |[a,b],h=>exact⟨a,b,rfl,by simpa using h⟩
theorem Nu {α β:Type}{f:α→β}{l:List α}{x y z:β}(h:l.map f=[x,y,z]):∃a b c,l=[a,b,c]∧f a=x∧f b=y∧f c=z:=by
 match l,h with
 |[a,b,c],h=>exact⟨a,b,c,rfl,by simpa using h⟩
theorem Uh:∀{L:Nat} {t:Tm} {k:Int} (cs:List Cell),bW L t=(k,0)→uJ k (bE L cs t)
 |0,t,k,cs,h=>ub _
 |L+1,t,k,cs,h=>by
  obtain⟨hn,hk⟩:=Gf h;obtain⟨ha,_⟩:=Ge h;have ih:∀a,a∈t.args→uJ (bW L a).1 (bE L cs a):=fun a hm=>Uh cs (show bW L a=((bW L a).1,0) by rw[←ha a hm]);rw[Gq];cases hn with
  |int h0 ha hn=>rw[if_pos (.inl h0)];exact⟨fun h=>(by cases h),fun _=>⟨fun h=>(by cases h),fun _=>hn⟩⟩
  |bool h0 ha hn=>rw[if_pos (.inr h0)];exact⟨fun h=>(by cases h),fun _=>⟨fun _=>hn,fun h=>by cases h⟩⟩
  |var h0 ha hn=>rw[if_neg (by omega),if_pos h0];exact anC cs _ hn
  |not h0 hk=>
   rw[if_neg (by omega),if_neg (by omega),if_neg (by omega)];unfold gL;rw[if_pos h0];split
   ·exact Ai _
   ·exact ub _
  |log h0 hk=>
   rw[if_neg (by omega),if_neg (by omega),if_neg (by omega)];unfold gL;rw[if_neg (by omega)];split
   ·exact Ai _
   rw[if_neg (by omega)];split
   ·exact ub _
   exact Ai _
  |ite k h0 cH=>
   obtain⟨a,b,c,hl,e1,e2,e3⟩:=Nu cH;rw[hl] at ih ⊢;have r1:=ih a (by simp);have r2:=ih b (by simp);have r3:=ih c (by simp);rw[e1] at r1;rw[e2] at r2;rw[e3] at r3;rw[if_neg (by omega),if_neg (by omega)];simp only[gr,EY,bh,nN];split
   ·rename_i hh;rcases(r1.2 hh.2).1 rfl with h1|h1<;>rw[h1]
    ·exact r3
    ·exact r2
   ·unfold gL;rw[if_neg (by omega),if_neg (by omega),if_pos h0];simp only[bh,nN,sF];split
    ·exact r2
    ·exact ub _
  |less h0 hk=>
   rw[if_neg (by omega),if_neg (by omega),if_neg (by omega)];unfold gL;rw[if_neg (by omega),if_neg (by omega),if_neg (by omega)];split
   ·exact ub _
   repeat' split
   all_goals exact Ai _
  |equal k h0 hk=>
   rw[if_neg (by omega),if_neg (by omega),if_neg (by omega)];unfold gL;rw[if_neg (by omega),if_neg (by omega),if_neg (by omega)];split
   ·exact ub _
   repeat' split
   all_goals exact Ai _
  |num h0 cH=>
   obtain⟨a,b,hl,e1,e2⟩:=zl cH;rw[hl] at ih ⊢;have r1:=ih a (by simp);have r2:=ih b (by simp);rw[e1] at r1;rw[e2] at r2;rw[if_neg (by omega),if_neg (by omega),if_neg (by omega)];unfold gL;rw[if_neg (by omega),if_neg (by omega),if_neg (by omega)];simp only[gr,EY,bh,nN,sF];split
   ·exact ub _
   rename_i Cq;rw[if_neg (by omega),if_neg (by omega),if_neg (by omega)];have k1:(bE L cs a).known=true:=by
    cases e:(bE L cs a).known with
    |true=>rfl
    |false=>exact absurd (.inl e) Cq
   have k2:(bE L cs b).known=true:=by
    cases e:(bE L cs b).known with
    |true=>rfl
    |false=>exact absurd (.inr e) Cq
   exact⟨fun h=>(by cases h),fun _=>⟨fun h=>(by cases h),fun _=>acI _ _ _ ((r1.2 k1).2 rfl) ((r2.2 k2).2 rfl)⟩⟩
theorem HM:∀(L:Nat) (cs:List Cell) (t:Tm),cG L t≤60→((cP L cs t).length:Int)≤cG L t
 |0,cs,t,h=>by simp[cG] at h
 |L+1,cs,t,h=>by
  have h1:=v8 (L+1) t;obtain⟨hl,hp⟩:=Nw h;have hs:∀(l:List Tm) (n:Int),(∀a,a∈l→cG L a≤60)→fB (cG L) l n≤60→((l.map (cP L cs)).flatten.length:Int)+n≤fB (cG L) l n∧∀j,(((l.map (cP L cs)).getD j []).length:Int)+n≤fB (cG L) l n:=by
   intro l
   induction l with
   |nil=>intro n _ _;simp[fB]
   |cons a l ih=>
    intro n hp hm;have ha:=HM L cs a (hp a (by simp));unfold fB at hm ⊢;split at hm
    ·omega
    ·rename_i h60;rw[if_neg h60];obtain⟨i1,i2⟩:=ih (n+cG L a) (fun b hb=>hp b (by simp[hb])) hm;refine⟨by rw[gr,SO,kF];omega,fun j=>?_⟩;cases j with
     |zero=>simp;omega
     |succ j=>have:=i2 j;simp at this ⊢;omega
  obtain⟨oH,fb⟩:=hs t.args 1 hp h;rw[Db];split
  ·simp;omega
  split
  ·split<;>simp<;>omega
  split
  ·have:=fb (2-(bh (t.args.map (bE L cs)) 0).n).toNat;show _≤fB _ _ _;omega
  split
  ·simp;omega
  ·show _≤fB _ _ _;omega
@[simp] theorem awX (x y:List Int):uk (ints x) 0 (ints y)=ints y:=_root_.id rfl
@[simp] theorem an3 (x y:Cell):uk (cN x) 0 (cN y)=cN y:=_root_.id rfl
@[simp] theorem avv (a b:List Int):D.list (a.map D.int++b.map D.int)=ints (a++b):=by simp[ints]
def lists (l:List (List Int)):D:=.list (l.map ints)
@[simp] theorem avH (l:List (List Int)):(lists l).l=l.map ints:=_root_.id rfl
theorem ab1 (l:List (List Int))(hl:l.length≤1000)(hs:l.flatten.length≤1000000):ak T1 156 [lists l] (ints l.flatten):=by
 refine .of_tree rfl acV apK ?_;simp[Rx];have hb:∀k,(l.take k).flatten.length≤l.flatten.length:=by
  intro k
  conv=>rhs;rw[←JR k l]
  rw[List.flatten_append,kF];omega
 have bD:∀k (hk:k<l.length),(l.take (k+1)).flatten=(l.take k).flatten++l[k]:=fun k hk=>by
  rw[nP hk,List.flatten_append];simp
 refine aS.forRounds l.length (fun k=>[.int ((l.take k).flatten.length:Nat),.int k]) (fun k=>[]) ?_ (fun k hk=>?_) ?_
 ·simp
 ·have hw:=bC hk (by omega);have h1:=bD k hk;have h2:=hb (k+1);rw[h1] at h2 ⊢;rw[kF] at h2 ⊢;generalize (l.take k).flatten.length=m at*;have rI:IntKind.i64.wrap ((m:Int)+(l[k].length:Int))=(m:Int)+l[k].length:=cY (by omega);have Cz:¬((m:Int)+l[k].length<0):=by omega
  simp[aab,IT,hk,hw,rI,Cz]
 ·simp[aab,IT];have Vs:ak T1 180 [.list [],.int (l.flatten.length:Nat)] (.list []):=by
   refine .of_ext (g:=fun _ ds=>yF ds) rfl ⟨0,fun _ _=>?_⟩;show(if(0:Int)≤(l.flatten.length:Nat)∧((l.flatten.length:Nat):Int)≤4294967296 then some (D.list []) else none)=some (D.list []);rw[if_pos (by omega)]
  rw[List.length_flatten] at Vs;refine⟨_,Vs,?_⟩;refine aS.forRounds l.length (fun k=>[.none,.int k]) (fun k=>[ints (l.take k).flatten]) ?_ (fun k hk=>?_) ?_
  ·simp[ints]
  ·have hw:=bC hk (by omega);have h1:=bD k hk;have h2:=hb (k+1);rw[h1] at h2 ⊢;rw[kF] at h2;generalize (l.take k).flatten=m at*;simp[aac,IU,hk,hw];omega
  ·simp[aac,IU]
theorem adW {op:Int}{l:List Cell}(h:(gL op l).known=false):gL op l=dU:=by
 have hy:∀b,(gH b).known=true:=fun b=>by cases b<;>simp[gH]
 unfold gL at h ⊢;split<;>rename_i c1
 ·rw[if_pos c1] at h;split<;>rename_i c2
  ·rw[if_pos c2,hy] at h;cases h
  ·rfl
 rw[if_neg c1] at h;split<;>rename_i c2
 ·rw[if_pos c2,hy] at h;cases h
 rw[if_neg c2] at h;split<;>rename_i c3
 ·rw[if_pos c3] at h;split<;>rename_i c4
  ·rw[if_pos c4,c4.1] at h;cases h
  ·rfl
 rw[if_neg c3] at h;split<;>rename_i c4
 ·rfl
 rw[if_neg c4] at h
 repeat' split at h
 all_goals first|(rw[hy] at h;cases h)|cases h
theorem Qe:∀(L:Nat) (cs:List Cell) (t:Tm) (k:Int),t.OK→cG L t≤60→bW L t=(k,0)→ak T1 116 [Gm cs,df t] (.tup [cN (bE L cs t),ints (cP L cs t)])
 |0,cs,t,k,ht,hm,hc=>by simp[cG] at hm
 |L+1,cs,t,k,ht,hm,hc=>by
  refine .of_tree rfl ac0 ap8 ?_;obtain⟨hl,hp⟩:=Nw hm;obtain⟨ha,_⟩:=Ge hc;obtain⟨hn,au6⟩:=Gf hc;have gh:∀a,a∈t.args→ak T1 116 [Gm cs,df a] (.tup [cN (bE L cs a),ints (cP L cs a)]):=fun a ei=>Qe L cs a (bW L a).1 (ht.arg ei) (hp a ei) (by rw[←ha a ei]);have CN:∀a,a∈t.args→uJ (bW L a).1 (bE L cs a):=fun a ei=>Uh cs (show bW L a=((bW L a).1,0) by rw[←ha a ei]);have VP:∀a,a∈t.args→(cP L cs a).length≤60:=fun a ei=>by have:=HM L cs a (hp a ei);have:=hp a ei;omega
  by_cases iv:t.op=0∨t.op=1
  ·
   have e1:bE (L+1) cs t=⟨true,t.n⟩:=by rw[Gq,if_pos iv]
   have e2:cP (L+1) cs t=[]:=by rw[Db,if_pos iv]
   rw[e1,e2];rcases iv with h|h<;>simp[EH,h]<;>exact⟨rfl,rfl⟩
  have o0:t.op≠0:=fun h=>iv (.inl h);have o1:t.op≠1:=fun h=>iv (.inr h);by_cases o2:t.op=2
  ·have hv:0≤t.n:=by
    cases hn with
    |var h0 ha hn=>exact hn.1
    |_=>omega
   have e1:bE (L+1) cs t=j3 cs t.n:=by rw[Gq,if_neg iv,if_pos o2]
   have e2:cP (L+1) cs t=if(j3 cs t.n).known=true then[] else[t.n]:=by rw[Db,if_neg iv,if_pos o2]
   rw[e1,e2];simp[EH,o2];refine⟨_,aoo cs t.n hv,?_⟩;cases e:(j3 cs t.n).known
   ·have:j3 cs t.n=dU:=by
     unfold j3 at e ⊢;split
     ·rfl
     ·rename_i h;rw[if_neg h] at e;split at e
      ·cases hb:decide ((cellAt cs t.n).n≠0)<;>rw[hb] at e<;>cases e
      ·cases e
    rw[this];simp[ints]
   ·have h:j3 cs t.n=⟨true,(j3 cs t.n).n⟩:=by rw[←e]
    rw[h];simp[ints]
    try rfl
  have hlen:1≤t.args.length∧(t.op≠3→2≤t.args.length)∧(t.op=6→3≤t.args.length):=by
   cases hn with
   |int h0 ha hn=>omega
   |bool h0 ha hn=>omega
   |var h0 ha hn=>omega
   |not h0 hk=>obtain⟨a,hl,_⟩:=ak6 hk;rw[hl];simp;omega
   |log h0 hk=>obtain⟨a,b,hl,_⟩:=zl hk;rw[hl];simp;omega
   |ite k h0 hk=>obtain⟨a,b,c,hl,_⟩:=Nu hk;rw[hl];simp
   |less h0 hk=>obtain⟨a,b,hl,_⟩:=zl hk;rw[hl];simp;omega
   |equal k h0 hk=>obtain⟨a,b,hl,_⟩:=zl hk;rw[hl];simp;omega
   |num h0 hk=>obtain⟨a,b,hl,_⟩:=zl hk;rw[hl];simp;omega
  have LH:9≤t.op→(-1099511627776≤(bh (t.args.map (bE L cs)) 0).n∧(bh (t.args.map (bE L cs)) 0).n≤1099511627776)∧(-1099511627776≤(bh (t.args.map (bE L cs)) 1).n∧(bh (t.args.map (bE L cs)) 1).n≤1099511627776):=by
   intro h9;have rb:∀c:Cell,uJ 0 c→-1099511627776≤c.n∧c.n≤1099511627776:=by
    intro c hr;cases e:c.known with
    |false=>rw[hr.1 e];simp
    |true=>exact(hr.2 e).2 rfl
   cases hn with
   |num h0 hk=>
    obtain⟨a,b,hl,ea,eb⟩:=zl hk;rw[hl] at CN ⊢;have r1:=CN a (by simp);have r2:=CN b (by simp);rw[ea] at r1;rw[eb] at r2;exact⟨rb _ r1,rb _ r2⟩
   |log h0 hk=>omega
   |_=>omega
  have h6:t.op=6→(bh (t.args.map (bE L cs)) 0).known=true→(bh (t.args.map (bE L cs)) 0).n=0∨(bh (t.args.map (bE L cs)) 0).n=1:=by
   intro o6 Cq;cases hn with
   |ite k h0 hk=>
    obtain⟨a,b,c,hl,ea,_⟩:=Nu hk;rw[hl] at CN Cq ⊢;have r1:=CN a (by simp);rw[ea] at r1;exact(r1.2 Cq).1 rfl
   |log h0 hk=>omega
   |num h0 hk=>omega
   |_=>omega
  have bK:t.op<3∨8<t.op→9≤t.op:=by
   cases hn with
   |log h0 hk=>omega
   |num h0 hk=>omega
   |_=>omega
  have e1:bE (L+1) cs t=if t.op=6∧(bh (t.args.map (bE L cs)) 0).known=true then bh (t.args.map (bE L cs)) (2-(bh (t.args.map (bE L cs)) 0).n).toNat else gL t.op (t.args.map (bE L cs)):=by
   rw[Gq,if_neg iv,if_neg o2]
  have e2:cP (L+1) cs t=if t.op=6∧(bh (t.args.map (bE L cs)) 0).known=true then(t.args.map (cP L cs)).getD (2-(bh (t.args.map (bE L cs)) 0).n).toNat [] else if(gL t.op (t.args.map (bE L cs))).known=true then[] else(t.args.map (cP L cs)).flatten:=by
   rw[Db,if_neg iv,if_neg o2]
  rw[e1,e2];simp[EH,o0,o1,o2];refine⟨by omega,?_⟩;refine aS.forRounds t.args.length (fun k=>[.int k]) (fun k=>[cells ((t.args.map (bE L cs)).take k++List.replicate (t.args.length-k) dU),lists ((t.args.map (cP L cs)).take k++List.replicate (t.args.length-k) [])]) ?_ (fun k hk=>?_) ?_
  ·simp[cells,lists,ints]
  ·have hw:=bC hk (by omega);have cV:=cT hk;have hr:=gh _ cV;have s1:=P4 (t.args.map (bE L cs)) dU (n:=t.args.length) (by simp) hk;have s2:=P4 (t.args.map (cP L cs)) [] (n:=t.args.length) (by simp) hk;rw[←s1,←s2];have l1:((t.args.map (bE L cs)).take k++List.replicate (t.args.length-k) dU).length=t.args.length:=by simp;omega
   have l2:((t.args.map (cP L cs)).take k++List.replicate (t.args.length-k) []).length=t.args.length:=by simp;omega
   have g1:(t.args.map (bE L cs))[k]'(by simpa using hk)=bE L cs t.args[k]:=by simp
   have g2:(t.args.map (cP L cs))[k]'(by simpa using hk)=cP L cs t.args[k]:=by simp
   rw[g1,g2];generalize (t.args.map (bE L cs)).take k++List.replicate (t.args.length-k) dU=A at*;generalize (t.args.map (cP L cs)).take k++List.replicate (t.args.length-k) []=B at*;generalize bE L cs t.args[k]=c at*;generalize cP L cs t.args[k]=d at*;simp[PL,El,hk];refine⟨_,hr,?_⟩;simp[hw,hk,l1,l2,cells,lists]
  ·have hA:(t.args.map (bE L cs)).take t.args.length++List.replicate (t.args.length-t.args.length) dU=t.args.map (bE L cs):=by rw[JU,List.replicate_zero,lZ,AM (by simp)]
   have hB:(t.args.map (cP L cs)).take t.args.length++List.replicate (t.args.length-t.args.length) []=t.args.map (cP L cs):=by rw[JU,List.replicate_zero,lZ,AM (by simp)]
   have lA:(t.args.map (bE L cs)).length=t.args.length:=by simp
   have lB:(t.args.map (cP L cs)).length=t.args.length:=by simp
   have jt:∀l:List Tm,(∀a,a∈l→a∈t.args)→((l.map (cP L cs)).flatten.length≤l.length*60):=by
    intro l
    induction l with
    |nil=>intro _;simp
    |cons a l ih=>
     intro h;have h1:=VP a (h a (by simp));have h2:=ih (fun b hb=>h b (by simp[hb]));rw[gr,SO,kF,pE];omega
   have jt:=jt t.args (fun a h=>h);have hBg:∀m:Nat,(Option.map (cP L cs) t.args[m]?).getD []=(t.args.map (cP L cs)).getD m []:=fun m=>by simp[aG]
   rw[hA,hB];generalize t.args.map (bE L cs)=A at*;generalize t.args.map (cP L cs)=B at*;have g0:0<A.length:=by omega
   have ve:A[0]=bh A 0:=by simp[bh,g0]
   by_cases GI:t.op=6∧(bh A 0).known=true
   ·obtain⟨o6,kn⟩:=GI;have hv:=h6 o6 kn;have hw:IntKind.i64.wrap (2-(bh A 0).n)=2-(bh A 0).n:=cY (by omega);have h3:3≤t.args.length:=hlen.2.2 o6;rw[if_pos ⟨o6,kn⟩,if_pos ⟨o6,kn⟩];obtain⟨m,ei⟩:∃m:Nat,m=(2-(bh A 0).n).toNat:=⟨_,rfl⟩
    have Cv:m<A.length:=by omega
    have L7:m<B.length:=by omega
    simp[PL,El,o6,kn,g0,ve,hw,←ei,Cv,L7,cells,lists];refine⟨by omega,by omega,by simp[bh,Cv],?_⟩;rw[hBg,aG,bq L7];rfl
   ·rw[if_neg GI,if_neg GI];have ahr:=aoi t.op A (by omega) (by omega) (by omega) LH bK;have aht:=ab1 B (by omega) (by omega);simp[PL,El,g0,ve];rw[if_neg GI];refine⟨_,ahr,?_⟩;cases e:(gL t.op A).known
    ·have eZ:gL t.op A=dU:=adW e;rw[eZ];simp;exact aht
    ·have h:gL t.op A=⟨true,(gL t.op A).n⟩:=by rw[←e]
     rw[h];simp[ints]
     try rfl
theorem aom (L:Nat)(cs:List Cell)(t:Tm)(k:Int)(h1:t.OK)(h2:cG L t≤60)(h3:bW L t=(k,0)):ak T 116 [Gm cs,df t] (.tup [cN (bE L cs t),ints (cP L cs t)]):=P1 rfl (Qe L cs t k h1 h2 h3)
end Rm
