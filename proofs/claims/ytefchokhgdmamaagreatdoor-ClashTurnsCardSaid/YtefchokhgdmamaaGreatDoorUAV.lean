/-
  Shared texts of this claim.
-/
import Derived.Test.YtefchokhgdmamaaGreatDoorUAR
set_option linter.unusedSimpArgs false
set_option linter.unusedVariables false
namespace Rm
open Go Go.Proofs Cx
def rN (c:Case)(k:Int):Int:=if k=0∨k=1∨k=2 then c.sign else if c.holder=-1 then 0 else c.holder
theorem anV (c:Case)(k:Int):av T 41 [cg c,.int k] (.int (rN c k)):=by
 refine .of_tree rfl (lA 93 (by kernel_rfl)) aqd ?_;unfold rN;by_cases h0:k=0<;>by_cases h1:k=1<;>by_cases h2:k=2<;>by_cases h3:c.holder=-1<;>simp[Sn,h0,h1,h2,h3]<;>omega
theorem ao9 {c:Case}(hh:-1≤c.holder){k:Int}(hk:0≤k∧k<5):rN c k=eQ c k:=by
 unfold rN eQ;by_cases h:k=3∨k=4
 ·rw[if_pos h,if_neg (by omega)];split<;>omega
 ·rw[if_neg h,if_pos (by omega)]
def kP (c:Case)(ks vs:List Int):Nat→Case
 |0=>c
 |i+1=>AW (kP c ks vs i) (ks.getD i 0) (rN c (ks.getD i 0)) (vs.getD i 0)
def nV (c:Case)(ks vs:List Int):Case:=kP c ks vs (min ks.length vs.length)
theorem KL {c:Case}{n:Nat}(h:SortF c.file n)(ks vs:List Int):∀i,SortF (kP c ks vs i).file (n+i)
 |0=>h
 |i+1=>(KL h ks vs i).set _
theorem KK (c:Case)(ks vs:List Int):∀i,(kP c ks vs i).sign=c.sign∧(kP c ks vs i).holder=c.holder∧
 (kP c ks vs i).file.signs=c.file.signs∧(kP c ks vs i).file.alters=c.file.alters∧(kP c ks vs i).file.acts=c.file.acts
 |0=>⟨rfl,rfl,rfl,rfl,rfl⟩
 |i+1=>KK c ks vs i
theorem arD {c:Case}(hs:SortF c.file 900)(hf:FewS c.file)(ks vs:List Int)(hl:ks.length≤60):FewS (nV c ks vs).file:=by
 have h:=KK c ks vs (min ks.length vs.length);exact⟨by rw[show(nV c ks vs).file.signs=_ from h.2.2.1];exact hf.1,by rw[show(nV c ks vs).file.alters=_ from h.2.2.2.1];exact hf.2,by rw[show(nV c ks vs).file.acts=_ from h.2.2.2.2];exact hf.3,cL (KL hs ks vs _).len (by omega)⟩
theorem arF (c:Case)(ks vs:List Int)(hl:ks.length≤60)(hv:vs.length≤60)(hs:SortF c.file 1000):av T 18 [cg c,ints ks,ints vs] (cg (nV c ks vs)):=by
 refine .of_tree rfl (lA 92 (by kernel_rfl)) apQ ?_;simp[R0];refine aU.forRounds (min ks.length vs.length) (fun i=>[.int i]) (fun i=>[cg (kP c ks vs i)]) ?_ (fun i hi=>?_) ?_
 ·simp[kP]
 ·have nB:i<ks.length:=by omega
  have wF:i<vs.length:=by omega
  have hw:=bJ nB (by omega);have kB:=Kl (KL hs ks vs i).sorted (cL (KL hs ks vs i).len (by omega)) (ks.getD i 0) (rN c (ks.getD i 0)) (vs.getD i 0);have bG:=anV (kP c ks vs i) (ks.getD i 0);have Oa:rN (kP c ks vs i) (ks.getD i 0)=rN c (ks.getD i 0):=by unfold rN;rw[(KK c ks vs i).1,(KK c ks vs i).2.1]
  rw[Oa] at bG;have hg:ks.getD i 0=ks[i]:=by simp[nB]
  have db:vs.getD i 0=vs[i]:=by simp[wF]
  have hN:kP c ks vs (i+1)=AW (kP c ks vs i) ks[i] (rN c ks[i]) vs[i]:=by rw[←hg,←db];rfl
  rw[hg,db] at kB;rw[hg] at bG;simp[abf,JV,nB,wF,hw];refine⟨_,bG,_,kB,?_⟩;rw[hN];rfl
 ·have:¬((min ks.length vs.length:Nat)<ks.length∧(min ks.length vs.length:Nat)<vs.length):=by omega
  simp[abf,JV];exact⟨fun h=>by omega,rfl⟩
def dP:List Int→List Int→Bool→Bool
 |x::xs,y::ys,b=>if x=y then dP xs ys b else decide (x<y)
 |_,_,b=>b
def yj (k v k' v':List Int):Bool:=if k.length=k'.length then dP k k' (dP v v' false) else decide (k.length<k'.length)
theorem OP:∀{l m:List Int} {b:Bool} (i:Nat) (h1:i<l.length) (h2:i<m.length),(∀j (hj:j<i),l[j]'(by omega)=m[j]'(by omega))→l[i]≠m[i]→dP l m b=decide (l[i]<m[i])
 |x::l,y::m,b,0,h1,h2,hj,ay=>by
  unfold dP;simp at ay;rw[if_neg ay];rfl
 |x::l,y::m,b,i+1,h1,h2,hj,ay=>by
  have h0:=hj 0 (by omega);simp at h0;unfold dP;rw[if_pos h0];simp only[List.getElem_cons_succ] at ay ⊢;exact OP i (by simpa using h1) (by simpa using h2) (fun j eX=>by have:=hj (j+1) (by omega);simpa using this) ay
theorem IQ:∀{l m:List Int} {b:Bool},(∀j (h1:j<l.length) (h2:j<m.length),l[j]=m[j])→dP l m b=b
 |[],_,b,_=>by unfold dP;rfl
 |_::_,[],b,_=>by unfold dP;rfl
 |x::l,y::m,b,h=>by
  have h0:=h 0 (by simp) (by simp);simp at h0;unfold dP;rw[if_pos h0];exact IQ fun j h1 h2=>by have:=h (j+1) (by simp;omega) (by simp;omega);simpa using this
theorem acD (k v k' v':List Int)(hk:k.length≤1000000)(hv:v.length≤1000000):av T 20 [ints k,ints v,ints k',ints v'] (.bool (yj k v k' v')):=by
 refine .of_tree rfl (lA 95 (by kernel_rfl)) aqb ?_;unfold yj;simp[Sl];by_cases hl:k.length=k'.length
 case neg=>
  have p5:¬((k.length:Int)=k'.length):=by omega
  simp[hl,p5]
 have p5:(k.length:Int)=k'.length:=by omega
 simp[hl];refine aU.scan k.length (fun j=>k.getD j 0=k'.getD j 0) (fun j=>[.bool false,.int j]) (fun _=>[]) ?_ (fun j hj hh ho=>?_) (fun j hj hh ho=>?_) (fun hh=>?_)
 ·simp
 ·have hw:=bJ hj (by omega);have mJ:j<k'.length:=by omega
  simp[hj,mJ] at ho;simp[QF,EA,hj,mJ,hw,ho,hl]
 ·have mJ:j<k'.length:=by omega
  simp[hj,mJ] at ho;have:=OP (b:=dP v v' false) j hj mJ (fun i hi=>by have:=hh i hi;simpa [show i<k.length by omega,show i<k'.length by omega] using this) ho;rw[this];simp[QF,EA,hj,mJ,ho,hl]
 ·have:=IQ (l:=k) (m:=k') (b:=dP v v' false) (fun j h1 h2=>by have:=hh j h1;simpa [h1,h2] using this);rw[this];simp[QF,EA,hl];refine aU.scan (min v.length v'.length) (fun j=>v.getD j 0=v'.getD j 0) (fun j=>[.bool false,.int j]) (fun _=>[]) ?_ (fun j hj hh ho=>?_) (fun j hj hh ho=>?_) (fun hh=>?_)
  ·simp
  ·have h1:j<v.length:=by omega
   have h2:j<v'.length:=by omega
   have hw:=bJ h1 (by omega);simp[h1,h2] at ho;simp[QG,EB,h1,h2,hw,ho]
  ·have h1:j<v.length:=by omega
   have h2:j<v'.length:=by omega
   simp[h1,h2] at ho;have:=OP (b:=false) j h1 h2 (fun i hi=>by have:=hh i hi;simpa [show i<v.length by omega,show i<v'.length by omega] using this) ho;rw[this];simp[QG,EB,h1,h2,ho]
  ·have:=IQ (l:=v) (m:=v') (b:=false) (fun j h1 h2=>by have:=hh j (by omega);simpa [h1,h2] using this);rw[this];simp[QG,EB];intro a b;omega
def kF (n:Nat):Nat→List Int×List Int
 |0=>([],[])
 |k+1=>if 0<n/3^k%3 then((kF n k).1++[(k:Int)],(kF n k).2++[((n/3^k%3:Nat):Int)-1]) else kF n k
def fb (n:Nat):List Int×List Int:=kF n 5
theorem OR (n:Nat):∀k,(kF n k).1.length≤k∧(kF n k).2.length=(kF n k).1.length
 |0=>⟨by simp[kF],rfl⟩
 |k+1=>by
  have:=OR n k;unfold kF;split
  ·simp;omega
  ·omega
theorem acW (n:Nat)(hn:n<1000):av T 19 [.int n] (.tup [ints (fb n).1,ints (fb n).2]):=by
 refine .of_tree rfl (lA 94 (by kernel_rfl)) aqc ?_;simp[Sm];refine aU.forRounds 5 (fun k=>[.int ((n/3^k:Nat):Int),.none,.none,.int k]) (fun k=>[ints (kF n k).2,ints (kF n k).1]) ?_ (fun k hk=>?_) ?_
 ·simp[kF];rfl
 ·have hd:(n/3^k:Nat)≤n:=Nat.div_le_self _ _;have hw:=bJ hk (by omega);have ae:(k:Int)<5:=by omega
  have p6:=OR n k;have e3:n/3^(k+1)=n/3^k/3:=by rw[Nat.pow_succ,Nat.div_div_eq_div_mul]
  have ar:∀m:Nat,m≤1000→cT .rem .i64 (m:Int) 3=((m%3:Nat):Int)∧cT .quo .i64 (m:Int) 3=((m/3:Nat):Int):=fun m hm=>by
   unfold cT;dsimp only;rw[acR (by omega),Int.tdiv_eq_ediv_of_nonneg (by omega),cn (by omega)];omega
  have h1:=(ar (n/3^k) (by omega)).1;have h2:=(ar (n/3^k) (by omega)).2;rw[←e3] at h2;clear ar;have hL:kF n (k+1)=if 0<n/3^k%3 then((kF n k).1++[(k:Int)],(kF n k).2++[((n/3^k%3:Nat):Int)-1]) else kF n k:=rfl;rw[hL];generalize n/3^(k+1)=m2 at*;generalize n/3^k=m at*;generalize kF n k=L at*;obtain⟨ks,vs⟩:=L;have av6:ks.length≤k:=p6.1;have av7:vs.length=ks.length:=p6.2;by_cases h:0<m%3
  ·have h':(0:Int)<((m%3:Nat):Int):=by omega
   have fl:IntKind.i64.wrap (((m%3:Nat):Int)-1)=((m%3:Nat):Int)-1:=cn (by omega);simp[QH,EC,ae,hw,h1,h2,h,h',fl];have h3:(0:Int)<(m:Int)%3:=by omega
   have h4:IntKind.i64.wrap ((m:Int)%3-1)=(m:Int)%3-1:=cn (by omega);rw[if_pos h3,h4];exact⟨by omega,by omega,by simp[ints],by simp[ints]⟩
  ·have h':((m%3:Nat):Int)=0:=by omega
   have j2:m%3=0:=by omega
   simp[QH,EC,ae,hw,h1,h2,h,h',j2]
 ·simp[QH,EC];exact⟨rfl,rfl⟩
end Rm
namespace Rm
open Go Go.Proofs Cx
theorem lex_trans:∀{x y z:List Int},dP x y false=true→dP y z false=true→dP x z false=true
 |[],_,_,h,_=>by unfold dP at h;cases h
 |_::_,[],_,h,_=>by unfold dP at h;cases h
 |_::_,_::_,[],_,h=>by unfold dP at h;cases h
 |a::x,b::y,c::z,h1,h2=>by
  unfold dP at h1 h2 ⊢;by_cases e1:a=b
  ·subst e1;rw[if_pos rfl] at h1;by_cases e2:a=c
   ·subst e2;rw[if_pos rfl] at h2 ⊢;exact lex_trans h1 h2
   ·rw[if_neg e2] at h2 ⊢;exact h2
  ·rw[if_neg e1] at h1;have h1:=of_decide_eq_true h1;by_cases e2:b=c
   ·subst e2;rw[if_neg e1];exact decide_eq_true h1
   ·rw[if_neg e2] at h2;have h2:=of_decide_eq_true h2;rw[if_neg (by omega)];exact decide_eq_true (by omega)
theorem lex_irrefl (x:List Int):dP x x false=false:=IQ fun _ _ _=>rfl
theorem Yb:∀{k k' v v':List Int} {b:Bool},k.length=k'.length→dP (k++v) (k'++v') b=dP k k' (dP v v' b)
 |[],[],v,v',b,_=>by
  show dP v v' b=_
  conv=>rhs;unfold dP
 |[],_::_,_,_,_,h=>by simp at h
 |_::_,[],_,_,_,h=>by simp at h
 |x::k,y::k',v,v',b,h=>by
  show dP (x::(k++v)) (y::(k'++v')) b=_;unfold dP;split
  ·exact Yb (by simpa using h)
  ·rfl
def IN (k v:List Int):List Int:=(k.length:Int)::(k++v)
theorem adQ (k v k' v':List Int):yj k v k' v'=dP (IN k v) (IN k' v') false:=by
 unfold yj IN;by_cases h:k.length=k'.length
 ·rw[if_pos h]
  conv=>rhs;unfold dP
  rw[if_pos (by omega),Yb h]
 ·rw[if_neg h]
  conv=>rhs;unfold dP
  rw[if_neg (by omega)];apply decide_eq_decide.2;omega
def Ha:List (List Int)→Bool
 |x::y::l=>dP x y false&&Ha (y::l)
 |_=>true
theorem U4:∀{l:List (List Int)},Ha l=true→l.Pairwise fun x y=>dP x y false=true
 |[],_=>.nil
 |[x],_=>by simp
 |x::y::l,h=>by
  simp only[Ha,aj] at h;have ih:=U4 h.2;rw[vO];refine⟨fun z hz=>?_,ih⟩;rcases cW.1 hz with rfl|hz
  ·exact h.1
  ·exact lex_trans h.1 ((vO.1 ih).1 z hz)
def DL (x:List Int×Int):List Int:=IN x.1 (gn x)
theorem aq4:Ha (ng.map DL)=true:=by kernel_rfl
theorem aq5:ng.Pairwise fun x y=>dP (DL x) (DL y) false=true:=List.pairwise_map.1 (U4 aq4)
theorem agc {p:List Int×Int→Bool}{x0 x:List Int×Int}(h:ng.find? p=some x0)(hx:x∈ng)(hb:dP (DL x) (DL x0) false=true):p x=false:=by
 obtain⟨_,us,bs,e,ha⟩:=List.find?_eq_some_iff_append.1 h;have hs:=aq5;rw[e] at hs hx;rcases cR.1 hx with hx|hx
 ·simpa using ha x hx
 ·rcases cW.1 hx with rfl|hx
  ·rw[lex_irrefl] at hb;cases hb
  ·have:=(vO.1 (FM.1 hs).2.1).1 x hx;have:=lex_trans this hb;rw[lex_irrefl] at this;cases this
def LW:Nat→List (List Int)
 |0=>[[]]
 |s+1=>(LW s).map (0::·)++(LW s).map (1::·)
def Tj:List (List Int×List Int):=(List.range 5).flatMap fun s=>(fT (s+1) 0).flatMap fun l=>(LW (s+1)).map fun v=>(l,v)
theorem aq3:ng.map (fun x=>(x.1,gn x))=Tj:=by kernel_rfl
theorem akU:((List.range 243).all fun n=>(fb n).1.isEmpty||Tj.contains (fb n))=true:=by kernel_rfl
theorem akV (n:Nat)(hn:n<243)(h:(fb n).1≠[]):∃x,x∈ng∧x.1=(fb n).1∧gn x=(fb n).2:=by
 have:=bz.1 akU n (cr.2 hn);rw[gF] at this;rcases this with h1|h1
 ·exact absurd (rY.1 h1) h
 ·have hm:fb n∈Tj:=by simpa using h1
  rw[←aq3] at hm;obtain⟨x,hx,e⟩:=ec.1 hm;exact⟨x,hx,by rw[←e],by rw[←e]⟩
theorem Ye:∀(s k:Nat),∀l,l∈fT s k→∀x,x∈l→0≤x∧x<5
 |0,_,l,h,x,hx=>by simp[fT] at h;subst h;cases hx
 |s+1,k,l,h,x,hx=>by
  obtain⟨i,hi,h⟩:=jb.1 h;obtain⟨l',h',rfl⟩:=ec.1 h;have:=cr.1 hi;rcases cW.1 hx with rfl|hx
  ·omega
  ·exact Ye s _ l' h' x hx
theorem Tk {x:List Int×Int}(hx:x∈ng):1≤x.1.length∧x.1.length≤5∧∀k,k∈x.1→0≤k∧k<5:=by
 unfold ng at hx;obtain⟨s,hs,hx⟩:=jb.1 hx;obtain⟨l,hl,hx⟩:=jb.1 hx;obtain⟨v,_,rfl⟩:=ec.1 hx;have h1:=IS _ _ l hl;have h2:=cr.1 hs;exact⟨by show 1≤l.length;omega,by show l.length≤5;omega,Ye _ _ l hl⟩
theorem TG {c:Case}(hh:-1≤c.holder){x:List Int×Int}(hk:∀k,k∈x.1→0≤k∧k<5):nV c x.1 (gn x)=gm c x.1 x.2:=by
 obtain⟨l,v⟩:=x;have key:∀i,i≤l.length→kP c l (gn (l,v)) i=jr c l v i:=by
  intro i
  induction i with
  |zero=>intro _;rfl
  |succ i ih=>
   intro hi;have cw:i<l.length:=hi;have hg:l.getD i 0=l[i]:=by simp[show i<l.length by omega]
   have hv:(gn (l,v)).getD i 0=iJ l.length v i:=by unfold gn;simp[show i<l.length by omega]
   unfold kP jr;rw[ih (by omega),hv,hg,ao9 hh (hk _ (dJ cw))]
 have hm:min l.length (gn (l,v)).length=l.length:=by unfold gn;simp
 show kP c l (gn (l,v)) (min l.length (gn (l,v)).length)=_;rw[hm];exact key _ (aX _)
theorem YX {r:Realm}{a b q:Int}{c:Case}{x:List Int×Int}(h:gK r a b q c x=false):eF r a b q (gm c x.1 x.2)=2∨eF r a b q (gm c x.1 x.2)=eF r a b q c:=by
 unfold gK at h;rw[Bool.and_eq_false_iff,decide_eq_false_iff_not,decide_eq_false_iff_not] at h;omega
theorem acG (r:Realm)(hr:r.OK)(a b q:Int)(c:Case)(hc:c.OK)(n:Nat)(hn:n<256):av T 4 [bK r,.int a,.int b,.int q,cg c,.v (.int .u8 (n:Int))] (.bool true):=by
 refine .of_tree rfl (lA 0 (by kernel_rfl)) apL ?_;simp[RV];obtain⟨e,he,hF⟩:=MB r hr c hc.1;refine⟨_,Rl,_,he,?_⟩;cases e
 ·simp
 have F:=hF rfl;have Ds:SortF c.file 900:=⟨F.facts,F.len⟩
 have aj7:SortF c.file 1000:=⟨F.facts,cL F.len (by omega)⟩
 have ht:=F.turn a b q;simp;refine⟨_,F.differ a b q,_,ht,?_⟩;by_cases hT:sv c=true
 case neg=>
  have e:qB r a b q c=([],[],false):=by unfold qB;rw[if_neg hT]
  rw[e];simp[sv] at hT;simp[sC];intro h1 h2 h3 h4;have:=hT h1 h2 h3;omega
 have pO:=hT;simp[sv] at pO;have Xf:¬(((c.sign<0∨(c.file.signs.length:Int)≤c.sign)∨c.holder< -1)∨(c.file.signs.length:Int)≤c.holder):=by omega
 have e:qB r a b q c=match ng.find? (gK r a b q c) with|some x=>(x.1,gn x,true)|none=>([],[],false):=by unfold qB;rw[if_pos hT];rfl
 rw[e];have hm:n%243<243:=K6 _ (by decide);have Xr:(n:Int).tmod 243=((n%243:Nat):Int):=by
  rw[acR (by omega)];omega
 have hL:=acW (n%243) (by omega);have p6:=OR (n%243) 5;have WY:=akV (n%243) hm;have hW:=fun ks vs (h1:List.length ks≤60) (h2:List.length vs≤60)=>arF c ks vs h1 h2 aj7;have hD:=fun ks vs (h1:List.length ks≤60)=>xW r F.good.right a b q (nV c ks vs) (arD Ds F.good.few ks vs h1);have W0:(fb (n%243)).1.length≤60:=by have:=p6.1;unfold fb;omega
 have aja:(fb (n%243)).2.length≤60:=by have:=p6.1;have:=p6.2;unfold fb;omega
 have XL:IntKind.i64.wrap (n:Int)=n:=cn (by omega);have lV:=hW _ _ W0 aja;have V8:=hD _ (fb (n%243)).2 W0;cases hf:ng.find? (gK r a b q c) with
 |none=>
  have iN:(fb (n%243)).1≠[]→eF r a b q (nV c (fb (n%243)).1 (fb (n%243)).2)=2∨eF r a b q (nV c (fb (n%243)).1 (fb (n%243)).2)=eF r a b q c:=fun ay=>by
   obtain⟨x,hx,e1,e2⟩:=WY ay;rw[←e1,←e2,TG pO.2.2.1 (Tk hx).2.2];exact YX (by simpa using nZ.1 hf x hx)
  generalize fb (n%243)=L at*;obtain⟨ks,vs⟩:=L;simp only at*;simp[sC,Xf,XL,Xr];refine⟨_,hL,?_⟩;simp;refine⟨_,lV,_,V8,?_⟩;simp;intro h1 h2;exact(iN h1).resolve_left h2
 |some x0=>
  have dg:=qL hf;obtain⟨l1,l5,lr⟩:=Tk dg;have qf:(gn x0).length=x0.1.length:=by unfold gn;simp
  have hW0:=hW x0.1 (gn x0) (by omega) (by omega);have hD0:=hD x0.1 (gn x0) (by omega);have hB0:=acD (fb (n%243)).1 (fb (n%243)).2 x0.1 (gn x0) (by omega) (by omega);have hg:=x9 hf;have ajq:eF r a b q (nV c x0.1 (gn x0))≠2∧eF r a b q (nV c x0.1 (gn x0))≠eF r a b q c:=by
   rw[TG pO.2.2.1 lr];unfold gK at hg;rw[aj,decide_eq_true_eq,decide_eq_true_eq] at hg;exact hg
  have iN:yj (fb (n%243)).1 (fb (n%243)).2 x0.1 (gn x0)=true→(fb (n%243)).1≠[]→eF r a b q (nV c (fb (n%243)).1 (fb (n%243)).2)=2∨eF r a b q (nV c (fb (n%243)).1 (fb (n%243)).2)=eF r a b q c:=fun hb ay=>by
   obtain⟨x,hx,e1,e2⟩:=WY ay;rw[←e1,←e2,adQ] at hb;rw[←e1,←e2,TG pO.2.2.1 (Tk hx).2.2];exact YX (agc hf hx hb)
  generalize hX:gn x0=V at*;obtain⟨K,v0⟩:=x0;generalize fb (n%243)=L at*;obtain⟨ks,vs⟩:=L;simp only at*;have hK0:¬K=[]:=by intro e;rw[e] at l1;simp at l1
  simp[sC,Xf,XL,Xr,hX];refine⟨_,hW0,_,hD0,?_⟩;simp[ajq,hK0,qf];refine⟨_,hL,?_⟩;simp;refine⟨_,hB0,?_⟩;cases hb:yj ks vs K V
  ·simp
  simp;refine⟨_,lV,_,V8,?_⟩;simp;intro h1 h2;exact(iN hb h1).resolve_left h2
end Rm
