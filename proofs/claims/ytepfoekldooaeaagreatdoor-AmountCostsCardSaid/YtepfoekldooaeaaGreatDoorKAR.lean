/-
  Shared texts of this claim.
-/
import Derived.Test.YtepfoekldooaeaaGreatDoorKAQ
set_option linter.unusedSimpArgs false
set_option linter.unusedVariables false
namespace Rm
open Go Go.Proofs Cx
def kD (f:File)(i:Nat):Int:=if i=0 then f.bill.day else(f.signs.getD (i-1) default).day
def Eu (f:File)(i:Nat)(s:Sign):Bool:=(f.signs.take i).any fun x=>(decide (s.kind=1)&&decide (x.kind=1))&&decide (x.part=s.part)
def zq (r:Realm)(f:File)(i:Nat):Int:=
 let s:=f.signs.getD i default
 if wi s.part 0 (f.bill.parts-1)=false then 15
 else if aF s.who r.firms.length=false∨aF s.city r.cities.length=false then 1
 else if wi s.day (kD f i) 100000=false∨(i=0∧¬s.day=kD f i) then 13
 else if uV r f i=false then 14
 else if Eu f i s=true then 5 else 0
theorem aeM (r:Realm)(hr:Small r)(f:File)(hp:1≤f.bill.parts∧f.bill.parts≤4)(i:Nat)(h:i<f.signs.length)(hl:f.signs.length≤100000):aj T abK [aZ r,bT f,.int i] (.int (zq r f i)):=by
 refine .of_tree rfl ajm aAT ?_;have kG:=hr.firms;have O0:=hr.cities;have gA:IntKind.i64.wrap ((r.firms.length:Int)-1)=(r.firms.length:Int)-1:=aW (by omega);have fl:IntKind.i64.wrap ((r.cities.length:Int)-1)=(r.cities.length:Int)-1:=aW (by omega);have Cy:IntKind.i64.wrap (f.bill.parts-1)=f.bill.parts-1:=aW (by omega);have hs:f.signs.getD i default=f.signs[i]:=by simp[h]
 generalize hX:zq r f i=X;unfold zq at hX;simp only[hs] at hX;simp[UB,h,gA,fl,Cy];refine⟨_,eu _ _ _,?_⟩;cases a1:wi f.signs[i].part 0 (f.bill.parts-1)
 ·simpa [a1] using hX
 simp[a1] at hX ⊢;refine⟨_,eu _ _ _,?_⟩;rw[yj] at hX;cases a2:wi f.signs[i].who 0 ((r.firms.length:Int)-1)
 ·simpa [a2] using hX
 simp[a2] at hX ⊢;refine⟨_,eu _ _ _,?_⟩;rw[yj] at hX;cases a3:wi f.signs[i].city 0 ((r.cities.length:Int)-1)
 ·simpa [a3] using hX
 simp[a3] at hX ⊢;refine⟨by omega,?_⟩;have ru:min i f.signs.length=i:=by omega
 refine aO.forRounds i (fun k=>[.int (kD f k),.bool ((f.signs.take k).any fun x=>(decide (f.signs[i].kind=1)&&decide (x.kind=1))&&decide (x.part=f.signs[i].part)),.int k]) (fun _=>[]) ?_ (fun k hk=>?_) ?_
 ·simp[kD]
 ·have hw:=bI hk (by omega);have bU:k<f.signs.length:=by omega
  have hf:kD f (k+1)=f.signs[k].day:=by simp[kD,bU]
  rw[List.take_succ_eq_append_getElem bU,List.any_append];generalize ((f.signs.take k).any fun x=>(decide (f.signs[i].kind=1)&&decide (x.kind=1))&&decide (x.part=f.signs[i].part))=A;simp[afM,LP,hk,bU,h,hw,hf,ru];cases A
  ·by_cases e1:f.signs[i].kind=1<;>by_cases e2:f.signs[k].kind=1<;>simp[e1,e2]
  ·simp
 ·have ht:Eu f i f.signs[i]=true↔∃x,x∈List.take i f.signs∧(f.signs[i].kind=1∧x.kind=1)∧x.part=f.signs[i].part:=by simp[Eu]
  simp[afM,LP,ru,h];refine⟨_,eu _ _ _,?_⟩;by_cases a4:wi f.signs[i].day (kD f i) 100000=false∨(i=0∧¬f.signs[i].day=kD f i)
  ·rw[if_pos a4] at hX;rw[if_pos (by simpa using a4)];exact hX
  rw[if_neg a4] at hX;rw[if_neg (by simpa using a4)];refine⟨_,ax5 r hr f i h hl,?_⟩;cases a5:uV r f i
  ·simpa [a5] using hX
  simp[a5] at hX;simp only[anK,if_true];rw[←hX];by_cases a6:Eu f i f.signs[i]=true
  ·rw[if_pos a6,if_pos (ht.1 a6)]
  ·rw[if_neg a6,if_neg (fun x=>a6 (ht.2 x))]
def zR (a:Act)(to at_ own:Bool):Bool:=
 if a.kind=0∨a.kind=1∨a.kind=2 then(to&&decide (a.at_=-1))&&decide (a.sum=0)
 else if a.kind=3∨a.kind=4∨a.kind=5 then((to&&decide (a.at_=-1))&&wi a.sum 0 1099511627776)&&wi a.form 0 1
 else if a.kind=6 then(to&&own)&&wi a.sum 1 1099511627776
 else if a.kind=9 then(decide (a.to=-1)&&own)&&decide (a.sum=0)
 else(decide (a.to=-1)&&at_)&&decide (a.sum=0)
def zW (f:File)(a:Act):Bool:=aF a.at_ f.signs.length&&zr f a.at_ a.part
def RB (f:File)(a:Act):Bool:=zW f a&&decide ((cL f a.at_).who=a.who)
def pB (r:Realm)(f:File)(a:Act):Bool:=
 if aF a.who r.firms.length=false∨(¬a.kind=4∧¬a.form=0) then false else zR a (aF a.to r.firms.length) (zW f a) (RB f a)
theorem ax1 (r:Realm)(hr:Small r)(f:File)(a:Act)(hl:f.signs.length≤100000):aj T abF [aZ r,bT f,gp a] (.bool (pB r f a)):=by
 refine .of_tree rfl ajg aAN ?_;have kG:=hr.firms;have gA:IntKind.i64.wrap ((r.firms.length:Int)-1)=(r.firms.length:Int)-1:=aW (by omega);have fl:IntKind.i64.wrap ((f.signs.length:Int)-1)=(f.signs.length:Int)-1:=aW (by omega);generalize hX:pB r f a=X;unfold pB RB zW at hX;simp[Uv,gA,fl];refine⟨_,eu _ _ _,?_⟩;rw[←yj];have vC:=eu a.to 0 ((r.firms.length:Int)-1);have Cz:=eu a.who 0 ((r.firms.length:Int)-1);rw[←yj] at vC Cz;generalize aF a.to r.firms.length=tt at*;generalize aF a.who r.firms.length=ww at*;have fin:∀at_ own:Bool,(if ww=false∨(¬a.kind=4∧¬a.form=0) then false else zR a tt at_ own)=X→
  if ww=false∨(¬a.kind=4∧¬a.form=0) then X=false
  else if a.kind=0∨a.kind=1∨a.kind=2 then(if tt=true∧a.at_=-1 then D.bool (decide (a.sum=0)) else D.bool false)=D.bool X
  else if a.kind=3∨a.kind=5∨a.kind=4 then
        if tt=true∧a.at_=-1 then
         ∃d,aj (dK tab ext) CT [D.int a.sum,D.int 0,D.int 1099511627776] d∧
          if(tt=true∧a.at_=-1)∧d.b=true then
             ∃Ba,aj (dK tab ext) CT [D.int a.form,D.int 0,D.int 1] Ba∧(if(tt=true∧a.at_=-1)∧d.b=true then Ba else D.bool false)=D.bool X
          else(if(tt=true∧a.at_=-1)∧d.b=true then D.none else D.bool false)=D.bool X
        else D.bool false=D.bool X
  else if a.kind=6 then
        if tt=true∧own=true then ∃Ba,aj (dK tab ext) CT [D.int a.sum,D.int 1,D.int 1099511627776] Ba∧(if tt=true∧own=true then Ba else D.bool false)=D.bool X
        else(if tt=true∧own=true then D.none else D.bool false)=D.bool X
  else if a.kind=9 then(if a.to=-1∧own=true then D.bool (decide (a.sum=0)) else D.bool false)=D.bool X
  else(if a.to=-1∧at_=true then D.bool (decide (a.sum=0)) else D.bool false)=D.bool X:=by
  intro at_ own hX;by_cases p:ww=false∨(¬a.kind=4∧¬a.form=0)
  ·rw[if_pos p] at hX ⊢;exact hX.symm
  rw[if_neg p] at hX ⊢;unfold zR at hX;by_cases k0:a.kind=0∨a.kind=1∨a.kind=2
  ·rw[if_pos k0] at hX ⊢;rw[←hX];by_cases e:tt=true∧a.at_=-1
   ·simp[e]
   ·rw[if_neg e];cases tt<;>simp at e ⊢;simp[e]
  rw[if_neg k0] at hX ⊢;by_cases k3:a.kind=3∨a.kind=4∨a.kind=5
  ·rw[if_pos k3] at hX;rw[if_pos (by omega),←hX];by_cases e:tt=true∧a.at_=-1
   ·rw[if_pos e];refine⟨_,eu _ _ _,?_⟩;cases wi a.sum 0 1099511627776
    ·simp
    ·simp[e];exact eu _ _ _
   ·rw[if_neg e];cases tt<;>simp at e ⊢;simp[e]
  rw[if_neg k3] at hX;rw[if_neg (by omega)];by_cases k6:a.kind=6
  ·rw[if_pos k6] at hX ⊢;rw[←hX];by_cases e:tt=true∧own=true
   ·rw[if_pos e];refine⟨_,eu _ _ _,?_⟩;simp[e]
   ·rw[if_neg e,if_neg e];cases tt<;>cases own<;>simp at e ⊢
  rw[if_neg k6] at hX ⊢;by_cases k9:a.kind=9
  ·rw[if_pos k9] at hX ⊢;rw[←hX];cases own<;>by_cases e:a.to=-1<;>simp[e]
  rw[if_neg k9] at hX ⊢;rw[←hX];cases at_<;>by_cases e:a.to=-1<;>simp[e]
 cases h1:aF a.at_ f.signs.length
 ·have hf:=fin false false (by simpa [h1] using hX);simp at hf ⊢;refine⟨_,vC,_,Cz,?_⟩;simpa using hf
 have cJ:0≤a.at_∧a.at_<f.signs.length:=by simpa [aF] using h1
 have h2:a.at_.toNat<f.signs.length:=by omega
 have hs:cL f a.at_=f.signs[a.at_.toNat]:=by simp[cL,h2]
 simp[cJ];refine⟨_,aeN f _ _ (.inr cJ),_,vC,_,Cz,?_⟩;rw[h1,hs] at hX;have hf:=fin _ _ hX;cases h3:zr f a.at_ a.part
 ·rw[h3] at hf;simpa using hf
 ·rw[h3] at hf;simpa [h2] using hf
theorem CS (a b:Int):(if a<b then b else a)=max a b:=by split<;>omega
theorem Ii (a b:Int):(if a<b then D.int b else D.int a)=D.int (max a b):=by
 rw[←CS];split<;>rfl
def yp (f:File)(i:Nat)(a:Act):Int:=
 let x:=if a.at_=-1 then f.bill.day else max f.bill.day (cL f a.at_).day
 if i=0 then x else max x (f.acts.getD (i-1) default).day
def qN (r:Realm)(f:File)(i:Nat):Int:=
 let a:=f.acts.getD i default
 if wi a.part 0 (f.bill.parts-1)=false then 15
 else if aF a.city r.cities.length=false∨wi a.kind 0 9=false then 1
 else if pB r f a=false then 14
 else if wi a.day (yp f i a) 100000=false then 13 else 0
theorem Wf {r:Realm}{f:File}{a:Act}(h:pB r f a=true)(hn:¬a.at_=-1):0≤a.at_∧a.at_<f.signs.length:=by
 unfold pB at h;split at h
 ·cases h
 have key:zW f a=true→0≤a.at_∧a.at_<f.signs.length:=fun e=>by
  unfold zW at e;simp only[Bool.and_eq_true] at e;simpa [aF] using e.1
 unfold zR RB at h
 repeat' split at h
 all_goals simp only[Bool.and_eq_true,decide_eq_true_eq] at h
 ·exact absurd h.1.2 hn
 ·exact absurd h.1.1.2 hn
 ·exact key h.1.2.1
 ·exact key h.1.2.1
 ·exact key h.1.2
theorem ax2 (r:Realm)(hr:Small r)(f:File)(hp:1≤f.bill.parts∧f.bill.parts≤4)(hl:f.signs.length≤100000)(sV:f.acts.length≤100000):aj T abG [aZ r,bT f] (.int (fc f.acts.length (qN r f))):=by
 refine .of_tree rfl ajh aAO ?_;have O0:=hr.cities;have fl:IntKind.i64.wrap ((r.cities.length:Int)-1)=(r.cities.length:Int)-1:=aW (by omega);have Cy:IntKind.i64.wrap (f.bill.parts-1)=f.bill.parts-1:=aW (by omega);simp[Uw];refine wP f.acts.length (qN r f) (fun k=>[.int 0,.int k]) (fun _=>[]) ?_ (fun k hk ho=>?_) (fun k hk ho hb=>?_) (fun hj=>?_)
 ·simp
 case' refine_2=>have hb:qN r f k=qN r f k:=rfl
 case' refine_3=>rw[hb]
 case refine_4=>simp[afK,LN,hj]
 all_goals
  have hw:=bI hk (by omega);have hs:f.acts.getD k default=f.acts[k]:=by simp[hk]
  clear hb;generalize hX:qN r f k=X at*;unfold qN at hX;simp only[hs] at hX;simp[afK,LN,hk,fl,Cy,hw];refine⟨_,eu _ _ _,?_⟩;cases a1:wi f.acts[k].part 0 (f.bill.parts-1)
  ·simp[a1] at hX ⊢
   first|exact hX|(exfalso;omega)
  simp[a1] at hX ⊢;refine⟨_,eu _ _ _,?_⟩;rw[yj] at hX;cases a2:wi f.acts[k].city 0 ((r.cities.length:Int)-1)
  ·simp[a2] at hX ⊢
   first|exact hX|(exfalso;omega)
  simp[a2] at hX ⊢;refine⟨_,eu _ _ _,?_⟩;cases a3:wi f.acts[k].kind 0 9
  ·simp[a3] at hX ⊢
   first|exact hX|(exfalso;omega)
  simp[a3] at hX ⊢;refine⟨_,ax1 r hr f f.acts[k] hl,?_⟩;cases a4:pB r f f.acts[k]
  ·simp[a4] at hX ⊢
   first|exact hX|(exfalso;omega)
  simp[a4] at hX ⊢;unfold yp at hX;by_cases k0:k=0
  ·subst k0;by_cases e1:f.acts[0].at_=-1
   ·simp[e1] at hX;simp[e1];refine⟨_,eu _ _ _,?_⟩;split at hX
    ·rename_i e;simp[e]
     first|exact hX|(exfalso;omega)
    ·rename_i e
     first|(exfalso;omega)|simp[e]
   ·obtain⟨h5,h6⟩:=Wf a4 e1;have h7:f.acts[0].at_.toNat<f.signs.length:=by omega
    have h8:cL f f.acts[0].at_=f.signs[f.acts[0].at_.toNat]:=by simp[cL,h7]
    simp[e1,h8] at hX;simp[e1,h5,h6,h7,Ii,CS];refine⟨_,eu _ _ _,?_⟩;split at hX
    ·rename_i e;simp[e]
     first|exact hX|(exfalso;omega)
    ·rename_i e
     first|(exfalso;omega)|simp[e]
  ·have cD:IntKind.i64.wrap ((k:Int)-1)=(k:Int)-1:=aW (by omega);have ct:((k:Int)-1).toNat=k-1:=by omega
   have lj:k-1<f.acts.length:=by omega
   have xO:0<k:=by omega
   by_cases e1:f.acts[k].at_=-1
   ·simp[k0,e1,lj] at hX;simp[e1,xO,cD,ct,lj,Ii,CS];refine⟨by omega,_,eu _ _ _,?_⟩;split at hX
    ·rename_i e;simp[e]
     first|exact hX|(exfalso;omega)
    ·rename_i e
     first|(exfalso;omega)|simp[e]
   ·obtain⟨h5,h6⟩:=Wf a4 e1;have h7:f.acts[k].at_.toNat<f.signs.length:=by omega
    have h8:cL f f.acts[k].at_=f.signs[f.acts[k].at_.toNat]:=by simp[cL,h7]
    simp[k0,e1,lj,h8] at hX;simp[e1,xO,cD,ct,lj,h5,h6,h7,Ii,CS];refine⟨by omega,_,eu _ _ _,?_⟩;split at hX
    ·rename_i e;simp[e]
     first|exact hX|(exfalso;omega)
    ·rename_i e
     first|(exfalso;omega)|simp[e]
end Rm
namespace Rm
open Go Go.Proofs Cx
def nZ (a b:Int):Int:=if a<b then-1 else if b<a then 1 else 0
theorem ZR (a:Int):aj T abk [.int a] (.bool false):=by
 refine .of_tree rfl aiT aAr ?_;simp[Ua]
theorem V2 (a b:Int):aj T abi [.int a,.int b] (.int (nZ a b)):=by
 refine .of_tree rfl aiR aAp ?_;simp[T8];refine⟨_,ZR a,_,ZR b,?_⟩;unfold nZ;by_cases h1:a<b
 ·simp[h1]
 by_cases h2:b<a<;>simp[h1,h2]
theorem ahn (l:List Int)(hl:l.length≤100000):aj T abj [ints l] (.int (fc l.length fun k=>l.getD k 0)):=by
 refine .of_tree rfl aiS aAq ?_;simp[T9];refine wP l.length (fun k=>l.getD k 0) (fun k=>[.int 0,.int k]) (fun _=>[]) ?_ (fun k hk ho=>?_) (fun k hk ho hb=>?_) (fun hj=>?_)
 ·simp
 ·have hw:=bI hk (by omega);have hx:l[k]=0:=by simpa [hk] using ho
  simp[So,Dv,hk,hx,hw]
 ·have hx:¬l[k]=0:=by simpa [hk] using ho
  simp only[List.getD_eq_getElem?_getD] at hb ⊢;rw[hb];simp[So,Dv,hk,hx]
 ·simp only[List.getD_eq_getElem?_getD] at hj ⊢;rw[hj];simp[So,Dv]
theorem or2 (a b:Int):(fc 2 fun k=>[a,b].getD k 0)=if a=0 then b else a:=by
 have e:List.range 2=[0,1]:=rfl;unfold fc;rw[e];by_cases ha:a=0<;>by_cases hb:b=0<;>simp[ha,hb]
def kz (x y:Fact):Prop:=x.at_<y.at_∨(x.at_=y.at_∧x.kind<y.kind)
instance (x y:Fact):Decidable (kz x y):=by unfold kz;infer_instance
theorem ahy (x y:Fact):0≤(if nZ x.at_ y.at_=0 then nZ x.kind y.kind else nZ x.at_ y.at_)↔¬kz x y:=by
 unfold nZ kz
 repeat' split
 all_goals omega
def sF (f:File)(i:Nat):Int:=
 let x:=f.facts.getD i default
 if wi x.kind 0 4=false then 1 else if aF x.at_ f.signs.length=false then 1 else if wi x.n 0 1=false then 1
 else if i=0 then 0 else if kz (f.facts.getD (i-1) default) x then 0 else 5
theorem ax4 (f:File)(hl:f.signs.length≤100000)(hlf:f.facts.length≤100000):aj T abI [bT f] (.int (fc f.facts.length (sF f))):=by
 refine .of_tree rfl ajj aAQ ?_;have fl:IntKind.i64.wrap ((f.signs.length:Int)-1)=(f.signs.length:Int)-1:=aW (by omega);simp[Uy];refine wP f.facts.length (sF f) (fun k=>[.int 0,.int k]) (fun _=>[]) ?_ (fun k hk ho=>?_) (fun k hk ho hb=>?_) (fun hj=>?_)
 ·simp
 case' refine_2=>have hb:sF f k=sF f k:=rfl
 case' refine_3=>rw[hb]
 case refine_4=>simp[afL,LO,hj]
 all_goals
  have hw:=bI hk (by omega);have hs:f.facts.getD k default=f.facts[k]:=by simp[hk]
  clear hb;generalize hX:sF f k=X at*;unfold sF at hX;simp only[hs] at hX;simp[afL,LO,hk,fl,hw];refine⟨_,eu _ _ _,?_⟩;cases a1:wi f.facts[k].kind 0 4
  ·simp[a1] at hX ⊢
   first|exact hX|(exfalso;omega)
  simp[a1] at hX ⊢;refine⟨_,eu _ _ _,?_⟩;rw[yj] at hX;cases a2:wi f.facts[k].at_ 0 ((f.signs.length:Int)-1)
  ·simp[a2] at hX ⊢
   first|exact hX|(exfalso;omega)
  simp[a2] at hX ⊢;refine⟨_,eu _ _ _,?_⟩;cases a3:wi f.facts[k].n 0 1
  ·simp[a3] at hX ⊢
   first|exact hX|(exfalso;omega)
  simp[a3] at hX ⊢;by_cases k0:k=0
  ·subst k0;simp at hX ⊢
   first|(exfalso;omega)|done
  ·have cD:IntKind.i64.wrap ((k:Int)-1)=(k:Int)-1:=aW (by omega);have ct:((k:Int)-1).toNat=k-1:=by omega
   have lj:k-1<f.facts.length:=by omega
   simp[k0,lj] at hX;simp[k0,cD,ct,lj];refine⟨by omega,_,V2 _ _,_,V2 _ _,?_⟩;have ho:=ahn [nZ f.facts[k-1].at_ f.facts[k].at_,nZ f.facts[k-1].kind f.facts[k].kind] (by simp);simp only[List.length_cons,List.length_nil] at ho;rw[or2] at ho;refine⟨_,ho,?_⟩;have ha:=ahy f.facts[k-1] f.facts[k];generalize (if nZ f.facts[k-1].at_ f.facts[k].at_=0 then nZ f.facts[k-1].kind f.facts[k].kind else nZ f.facts[k-1].at_ f.facts[k].at_)=n at*;clear ho;by_cases e:kz f.facts[k-1] f.facts[k]
   ·have hn:¬0≤n:=fun h=>ha.1 h e;simp[e] at hX;simp[hn]
    first|done|(exfalso;omega)
   ·have hn:0≤n:=ha.2 e;simp[e] at hX;simp[hn]
    first|exact hX|(exfalso;omega)
def uG (f:File)(i:Nat):Int:=
 let x:=f.alters.getD i default
 if wi x.at_ ((if i=0 then 0 else(f.alters.getD (i-1) default).at_)+1) f.signs.length=false then 1 else if wi x.sum 1 1099511627776=false then 3 else 0
structure PaperOK (r:Realm) (f:File):Prop where
 full:(f.signs.length≤40∧f.alters.length≤4)∧f.acts.length≤100∧f.facts.length≤200
 bill:BillOK r f.bill
 ne:f.signs≠[]
 signs:fc f.signs.length (zq r f)=0
 alters:fc f.alters.length (uG f)=0
 acts:fc f.acts.length (qN r f)=0
 facts:fc f.facts.length (sF f)=0
theorem axZ (r:Realm)(hs:Small r)(f:File)(nj:f.OK):∃d,aj T abD [aZ r,bT f] d∧nW (PaperOK r f) d:=by
 refine aj.ex_of_tree rfl aje aAL ?_;simp[Ut];by_cases hf:(f.signs.length≤40∧f.alters.length≤4)∧f.acts.length≤100∧f.facts.length≤200
 case neg=>
  rw[if_pos (by omega)];exact .no (fun h=>hf h.full) (by decide)
 rw[if_neg (by omega)];obtain⟨d,hb,e,rfl,he⟩:=aCq r hs f.bill;refine⟨_,hb,?_⟩;by_cases e0:e=0
 case neg=>
  simp[e0];exact .no (fun h=>e0 (he.2 h.bill)) e0
 have He:=he.1 e0;simp[e0];by_cases aE:f.signs=[]
 ·simp[aE];exact .no (fun h=>h.ne aE) (by decide)
 simp[aE];refine wP f.signs.length (zq r f) (fun k=>[.int 0,.int k]) (fun _=>[]) ?_ (fun k hk ho=>?_) (fun k hk ho hb=>?_) (fun hj=>?_)
 ·simp
 ·have hw:=bI hk (by omega);simp[Sr,Dx,hk,hw];refine⟨_,aeM r hs f He.parts k hk (by omega),?_⟩;simp[ho]
 ·simp[Sr,Dx,hk];refine⟨_,aeM r hs f He.parts k hk (by omega),?_⟩;simp[ho];exact .no (fun h=>ho (by rw[←hb];exact h.signs)) ho
 simp[Sr,Dx];have ka:∀k,k<f.alters.length→(∀j,j<k→uG f j=0)→IntKind.i64.wrap ((if k=0 then 0 else(f.alters.getD (k-1) default).at_)+1)=(if k=0 then 0 else(f.alters.getD (k-1) default).at_)+1:=by
  intro k hk hj;refine aW ?_;by_cases k0:k=0
  ·rw[if_pos k0];omega
  ·rw[if_neg k0];have h1:=hj (k-1) (by omega);have cD:k-1<f.alters.length:=by omega
   have h2:=(nj.2.2.1.2 _ (List.getElem_mem cD)).1;have h3:f.alters.getD (k-1) default=f.alters[k-1]:=by simp[cD]
   unfold uG at h1;rw[h3] at h1 ⊢;simp only at h1;generalize (if k-1=0 then(0:Int) else(f.alters.getD (k-1-1) default).at_)=L0 at h1;split at h1
   ·cases h1
   ·rename_i hh;simp[wi] at hh;unfold aT at h2;omega
 refine aO.scan f.alters.length (fun k=>uG f k=0) (fun k=>[.int 0,.int (if k=0 then 0 else(f.alters.getD (k-1) default).at_),.int k]) (fun _=>[]) ?_ (fun k hk vi ho=>?_) (fun k hk vi ho=>?_) (fun B4=>?_)
 ·simp
 ·have hw:=bI hk (by omega);have hl:=ka k hk vi;generalize hL:(if k=0 then 0 else(f.alters.getD (k-1) default).at_)=L at*;have hs:f.alters.getD k default=f.alters[k]:=by simp[hk]
  unfold uG at ho;simp only[hs,hL] at ho;simp[Ss,Dy,hk,hl];refine⟨_,eu _ _ _,?_⟩;cases a1:wi f.alters[k].at_ (L+1) f.signs.length
  ·simp[a1] at ho
  simp[a1] at ho ⊢;refine⟨_,eu _ _ _,?_⟩;simp[ho,hw]
 ·have hl:=ka k hk vi;have BZ:=Ou hk vi ho;generalize hL:(if k=0 then 0 else(f.alters.getD (k-1) default).at_)=L at*;have hs:f.alters.getD k default=f.alters[k]:=by simp[hk]
  have bad:∀e:Int,e≠0→nW (PaperOK r f) (.int e):=fun e h=>.no (fun h=>ho (by rw[←BZ];exact h.alters)) h;unfold uG at ho;simp only[hs,hL] at ho;simp[Ss,Dy,hk,hl];refine⟨_,eu _ _ _,?_⟩;cases a1:wi f.alters[k].at_ (L+1) f.signs.length
  ·simp;exact bad 1 (by decide)
  simp[a1] at ho ⊢;refine⟨_,eu _ _ _,?_⟩;simp[ho];exact bad 3 (by decide)
 have B4:=Ow B4;simp[Ss,Dy];refine⟨_,ax2 r hs f He.parts (by omega) (by omega),?_⟩;by_cases e3:fc f.acts.length (qN r f)=0
 case neg=>
  simp[e3];exact .no (fun h=>e3 h.acts) e3
 simp[e3];refine⟨_,ax4 f (by omega) (by omega),?_⟩;exact⟨_,rfl,fun h=>⟨hf,He,aE,hj,B4,e3,h⟩,fun h=>h.facts⟩
end Rm
namespace Rm
open Go Go.Proofs Cx
theorem aeJ {α:Type}(key:α→Int)(l:List α)(h:∀i (h1:i+1<l.length),key (l[i]'(by omega))≤key l[i+1]):l.Pairwise fun a b=>key a≤key b:=by
 rw[List.pairwise_iff_getElem];intro i j hi hj cw;obtain⟨d,rfl⟩:∃d,j=i+1+d:=⟨j-i-1,by omega⟩
 clear cw
 induction d with
 |zero=>exact h i hj
 |succ d ih=>exact Int.le_trans (ih (by omega)) (h (i+1+d) hj)
structure Sorted (f:File):Prop where
 signs:f.signs.Pairwise fun a b=>a.day≤b.day
 acts:f.acts.Pairwise fun a b=>a.day≤b.day
 aJk:∀s,s∈f.signs→0≤s.day
 aFi:∀a,a∈f.acts→0≤a.day
structure SignOK (r:Realm) (f:File) (i:Nat) (s:Sign):Prop where
 part:0≤s.part∧s.part≤f.bill.parts-1
 who:0≤s.who∧s.who<r.firms.length
 city:0≤s.city∧s.city<r.cities.length
 day:kD f i≤s.day∧s.day≤100000
 fits:uV r f i=true
 once:Eu f i s=false
theorem PaperOK.sign {r:Realm}{f:File}(h:PaperOK r f)(i:Nat)(hi:i<f.signs.length):SignOK r f i f.signs[i]:=by
 have h1:=Bv h.signs i hi;have hs:f.signs.getD i default=f.signs[i]:=by simp[hi]
 unfold zq at h1;simp only[hs] at h1;split at h1
 ·cases h1
 rename_i a1;split at h1
 ·cases h1
 rename_i a2;split at h1
 ·cases h1
 rename_i a3;split at h1
 ·cases h1
 rename_i a4;split at h1
 ·cases h1
 rename_i a5;simp[wi,aF] at a1 a2 a3;exact⟨⟨by omega,by omega⟩,⟨by omega,by omega⟩,⟨by omega,by omega⟩,⟨by omega,by omega⟩,by simpa using a4,by simpa using a5⟩
structure zF (r:Realm) (f:File) (i:Nat) (a:Act):Prop where
 part:0≤a.part∧a.part≤f.bill.parts-1
 city:0≤a.city∧a.city<r.cities.length
 kind:0≤a.kind∧a.kind≤9
 fits:pB r f a=true
 day:yp f i a≤a.day∧a.day≤100000
theorem PaperOK.act {r:Realm}{f:File}(h:PaperOK r f)(i:Nat)(hi:i<f.acts.length):zF r f i f.acts[i]:=by
 have h1:=Bv h.acts i hi;have hs:f.acts.getD i default=f.acts[i]:=by simp[hi]
 unfold qN at h1;simp only[hs] at h1;split at h1
 ·cases h1
 rename_i a1;split at h1
 ·cases h1
 rename_i a2;split at h1
 ·cases h1
 rename_i a3;split at h1
 ·cases h1
 rename_i a4;simp[wi,aF] at a1 a2 a4;exact⟨⟨by omega,by omega⟩,⟨by omega,by omega⟩,⟨by omega,by omega⟩,by simpa using a3,by omega⟩
theorem aaa (f:File)(i:Nat)(a:Act):f.bill.day≤yp f i a∧(i≠0→(f.acts.getD (i-1) default).day≤yp f i a):=by
 unfold yp;refine⟨?_,fun h=>?_⟩
 ·simp only;split<;>split<;>omega
 ·simp only[if_neg h];omega
theorem PaperOK.day {r:Realm}{f:File}(h:PaperOK r f):0≤f.bill.day∧f.bill.day≤100000:=by
 have:=h.bill.range;unfold wJ at this;omega
theorem XK {r:Realm}{f:File}(h:PaperOK r f):∀i,i<f.signs.length→0≤kD f i
 |0,_=>by simp[kD];exact h.day.1
 |i+1,hi=>by
  have h1:=(h.sign i (by omega)).day.1;have h2:=XK h i (by omega);have e:kD f (i+1)=f.signs[i].day:=by simp[kD,show i<f.signs.length by omega]
  omega
theorem PaperOK.sorted {r:Realm}{f:File}(h:PaperOK r f):Sorted f:=by
 refine⟨aeJ (·.day) f.signs fun i hi=>?_,aeJ (·.day) f.acts fun i hi=>?_,fun s hs=>?_,fun a ha=>?_⟩
 ·have h1:=(h.sign (i+1) hi).day.1;have e:kD f (i+1)=f.signs[i].day:=by simp[kD,show i<f.signs.length by omega]
  rw[e] at h1;exact h1
 ·have h1:=(h.act (i+1) hi).day.1;have h2:=(aaa f (i+1) f.acts[i+1]).2 (by omega);have e:f.acts.getD (i+1-1) default=f.acts[i]:=by simp[show i<f.acts.length by omega]
  rw[e] at h2;exact Int.le_trans h2 h1
 ·obtain⟨i,hi,rfl⟩:=List.getElem_of_mem hs;exact Int.le_trans (XK h i hi) (h.sign i hi).day.1
 ·obtain⟨i,hi,rfl⟩:=List.getElem_of_mem ha;have h1:=(h.act i hi).day.1;have h2:=(aaa f i f.acts[i]).1;have:=h.day;omega
theorem azq {r:Realm}{f:File}{i:Nat}(hi:i<f.signs.length)(h:uV r f i=true)(hk:f.signs[i].kind=1∨f.signs[i].kind=4):1≤f.signs[i].sum∧f.signs[i].sum≤1099511627776:=by
 have hs:f.signs.getD i default=f.signs[i]:=by simp[hi]
 unfold uV at h;rw[hs] at h;unfold GR at h;split at h
 ·cases h
 split at h
 ·cases h
 unfold Ox at h;rcases hk with hk|hk
 ·simp[hk,wi] at h;omega
 ·simp[hk,wi] at h;omega
theorem PaperOK.sums {r:Realm}{f:File}(h:PaperOK r f):SumsOK f:=by
 have hr:=h.bill.range;unfold wJ at hr;refine⟨by omega,by omega,fun a ha=>?_,fun s hs hk=>?_⟩
 ·obtain⟨i,hi,rfl⟩:=List.getElem_of_mem ha;have h1:=Bv h.alters i hi;have hs:f.alters.getD i default=f.alters[i]:=by simp[hi]
  unfold uG at h1;simp only[hs] at h1;generalize (if i=0 then(0:Int) else(f.alters.getD (i-1) default).at_)=L at h1;split at h1
  ·cases h1
  split at h1
  ·cases h1
  rename_i a1;simp[wi] at a1;omega
 ·obtain⟨i,hi,rfl⟩:=List.getElem_of_mem hs;exact azq hi (h.sign i hi).fits hk
end Rm
namespace Rm
open Go Go.Proofs Cx
@[simp] theorem aJD (a0 a1 a2 a3 a4 a5 a6 x:D):cH [a0,a1,a2,a3,a4,a5,a6] 1 [x]=[a0,x,a2,a3,a4,a5,a6]:=_root_.id rfl
@[simp] theorem aJE (a0 a1 a2 a3 a4 a5 a6 x:D):cH [a0,a1,a2,a3,a4,a5,a6] 2 [x]=[a0,a1,x,a3,a4,a5,a6]:=_root_.id rfl
theorem CQ (a b:Int):(if b<a then b else a)=min a b:=by split<;>omega
theorem Ig (a b:Int):(if b<a then D.int b else D.int a)=D.int (min a b):=by
 rw[←CQ];split<;>rfl
theorem yz (a b:Int):(if a<b then a else b)=min b a:=by split<;>omega
theorem CP (a b:Int):(if a<b then D.int a else D.int b)=D.int (min b a):=by
 rw[←yz];split<;>rfl
noncomputable def bY (r:Realm)(forum:Int)(f:File)(sign day:Int):Owed:=(bm r forum f sign day).owed (rateF r)
structure ORun (r:Realm) (f:File):Prop where
 right:Right r
 rightD:RightD r
 few:FewS f
 realm:RealmOK r
 sums:SumsOK f
 who:∀s,s∈f.signs→0≤s.who∧s.who<r.firms.length
 acts:∀a,a∈f.acts→lb a=true→0≤a.sum∧a.sum≤1099511627776
theorem GG {l:List Act}(h:∀a,a∈l→lb a=true→0≤a.sum∧a.sum≤1099511627776):0≤eg l∧eg l≤1099511627776:=by
 have key:∀(l:List Act) (c:Int),0≤c∧c≤1099511627776→(∀a,a∈l→lb a=true→0≤a.sum∧a.sum≤1099511627776)→0≤l.foldl qU c∧l.foldl qU c≤1099511627776:=by
  intro l
  induction l with
  |nil=>exact fun c h _=>h
  |cons a l ih=>
   intro c hc hl;rw[List.foldl_cons];refine ih _ ?_ fun b hb=>hl b (by simp[hb]);unfold qU;split
   ·rename_i h;have:=hl a (by simp) h;omega
   ·exact hc
 exact key l 0 (by omega) h
theorem qL (r:Realm)(forum:Int)(f:File)(sign day:Int)(h:ORun r f):aj T aaO [aZ r,.int forum,bT f,.int sign,.int day] (mj (bY r forum f sign day)):=by
 refine .of_tree rfl aio azT ?_;have hf:=h.few;have hg:=hf.at_ day;have hl:r.rates.length≤100000:=by have:=h.rightD.small.rates;omega
 have auF:=GJ r forum h.sums sign day;simp[TC];refine⟨_,D5 f day (by have:=hf.signs;omega) (by have:=hf.acts;omega) (by have:=hf.alters;omega) (by have:=hf.facts;omega),_,MV r h.right h.rightD forum f sign day hf,?_⟩;simp;have HQ:(bA r forum f sign day).2=true→0≤sign∧sign<(aG f day).signs.length:=by
  intro e;unfold bA at e;split at e
  ·cases e
  ·rename_i hs;have e2:(dR r forum f day).file.signs.length=(aG f day).signs.length:=rfl;omega
 unfold bY Due.owed;cases e1:(bA r forum f sign day).2
 ·have e2:(bm r forum f sign day).there=false:=e1;simp[e2];rfl
 have e2:¬(bm r forum f sign day).there=false:=by
  have:(bm r forum f sign day).there=true:=e1;simp[this]
 obtain⟨HL,Cr⟩:=HQ e1;have dj:¬sign<0:=by omega
 have HM:¬((aG f day).signs.length:Int)≤sign:=by omega
 rw[if_neg e2];simp[dj,HM];refine⟨_,MX r h.right h.rightD forum f day hf,?_⟩;have aHA:∀(b:Bool),(bm r forum f sign day).now=b↔(decide (bX r forum f day≠-1)&&decide (bX r forum f day≤min day 100000))=b:=fun b=>Iff.rfl;have pU:∀q,aj T QG [aZ r,.int forum,.int q,eN (cU r forum f sign day)] (nf (bS r forum q (cU r forum f sign day))):=fun q=>Nc r h.right forum q _ hf;have OP:∀a,a∈(aG f day).acts→lb a=true→0≤a.sum∧a.sum≤1099511627776:=fun a ha=>h.acts a ((List.takeWhile_sublist _).subset ha);have loop:∀(i x:Int) (ρ:Env),ρ.r 116=.int 0→ρ.r 115=.int (aG f day).acts.length→ρ.r 114=acts (aG f day).acts→ρ.o 14=.agg [.int (bA r forum f sign day).1.sum,.int i,.int 0,.int x,.int 0,.int 0,.int f.bill.currency]→
  ∀(K:Env→Prop) (Q:Out→Prop),(∀ρ':Env,ρ'.o 14=.agg [.int (bA r forum f sign day).1.sum,.int i,.int (eg (aG f day).acts),.int x,.int 0,.int 0,.int f.bill.currency]→(∀j,j≠14→ρ'.o j=ρ.o j)→K ρ')→aO (dK tab ext) (aao ES) ρ (fu K Q):=by
  intro i x ρ r1 r2 r3 r4 K Q hK;refine aO.forRounds (aG f day).acts.length (fun k=>[.int k]) (fun k=>[.agg [.int (bA r forum f sign day).1.sum,.int i,.int (eg ((aG f day).acts.take k)),.int x,.int 0,.int 0,.int f.bill.currency]]) ?_ (fun k hk=>?_) ?_
  ·simp[r1,r4,eg]
  ·have hw:=bI hk (by have:=hg.acts;omega);have hc:eg ((aG f day).acts.take (k+1))=qU (eg ((aG f day).acts.take k)) (aG f day).acts[k]:=by
        rw[List.take_succ_eq_append_getElem hk,N6]
   have hcr:=GG (l:=(aG f day).acts.take k) fun a ha=>OP a (List.mem_of_mem_take ha);have OQ:=OP (aG f day).acts[k] (List.getElem_mem hk);rw[hc];generalize eg ((aG f day).acts.take k)=c at*;simp[afF,LI,r2,r3,hk,hw];generalize (aG f day).acts[k]=a at*;unfold qU;by_cases e:a.kind=4∨a.kind=5
   ·have e':lb a=true:=by simpa [lb] using e
    have fl:IntKind.i64.wrap (c+a.sum)=c+a.sum:=aW (by have:=OQ e';omega);simp[e,e',fl,CQ,Ig]
   ·have e':¬lb a=true:=by simpa [lb] using e
    simp[e,e']
  ·simp[afF,LI,r2];exact hK _ (by simp) (fun j hj=>by simp[hj])
 have ar0:(if(100000:Int)<day then(100000:Int) else day)=min day 100000:=CQ day 100000;have ar1:(if(100000:Int)<day then D.int 100000 else D.int day)=D.int (min day 100000):=Ig day 100000;simp only[xp,ar0,ar1];have bf:(bm r forum f sign day).sum=(bA r forum f sign day).1.sum:=rfl;have dt:(bm r forum f sign day).cur=f.bill.currency:=rfl;have hd3:(bm r forum f sign day).costs=eg (aG f day).acts:=rfl;rw[bf,dt,hd3];have BS:=GG OP;have fin:∀i x:Int,(0≤i∧i≤1099511627776)→(0≤x∧x≤1099511627776)→IntKind.i64.wrap (IntKind.i64.wrap (IntKind.i64.wrap ((bA r forum f sign day).1.sum+i)+eg (aG f day).acts)+x)=(bA r forum f sign day).1.sum+i+eg (aG f day).acts+x:=by
  intro i x hi hx;rw[aW (n:=(bA r forum f sign day).1.sum+i) (by omega),aW (n:=(bA r forum f sign day).1.sum+i+_) (by omega),aW (by omega)]
 by_cases HC:¬bX r forum f day=-1∧bX r forum f day≤min day 100000
 case neg=>
  have hn:(bm r forum f sign day).now=false:=by
   show(decide (bX r forum f day≠-1)&&decide (bX r forum f day≤min day 100000))=false;rw[Bool.eq_false_iff];intro e;simp only[Bool.and_eq_true,decide_eq_true_eq] at e;exact HC e
  have hi:(bm r forum f sign day).interest=0:=by unfold Due.interest;rw[hn];rfl
  have hx:(bm r forum f sign day).exch (rateF r)=0:=by unfold Due.exch;rw[if_neg (by simp[hn])]
  obtain⟨i,Pc⟩:∃i:Int,i=0:=⟨0,rfl⟩
  obtain⟨x,yg⟩:∃x:Int,x=0:=⟨0,rfl⟩
  rw[←Pc] at hi;rw[←yg] at hx;rw[if_neg HC,hi,hx];have nm:=fin i x (by omega) (by omega);refine loop i x _ (by simp) (by simp) (by simp) (by simp[Pc,yg]) _ _ fun ρ' h1 h2=>?_;simp[h1,h2,nm,yz,CP];rfl
 rw[if_pos HC];have hn:(bm r forum f sign day).now=true:=by
  show(decide (bX r forum f day≠-1)&&decide (bX r forum f day≤min day 100000))=true;simp only[Bool.and_eq_true,decide_eq_true_eq];exact HC
 have hi:(bm r forum f sign day).interest=kK (bA r forum f sign day).1.sum (bm r forum f sign day).rateF (bX r forum f day) (min day 100000):=by unfold Due.interest;rw[if_pos hn];rfl
 have atq:0≤(bm r forum f sign day).interest∧(bm r forum f sign day).interest≤1099511627776:=by
  rw[hi];refine⟨HY _ _ _ _,?_⟩;unfold kK;split<;>omega
 have hint:=avf (bA r forum f sign day).1.sum (bm r forum f sign day).rateF (bX r forum f day) (min day 100000);rw[←hi] at hint;have CA:=XC (GI r forum h.sums sign day) (LH h.realm);have kJ:sign.toNat<(aG f day).signs.length:=by omega
 have xX:cL (aG f day) sign=(aG f day).signs[sign.toNat]:=by simp[cL,kJ]
 have yf:=h.who _ ((List.takeWhile_sublist _).subset (List.getElem_mem (show sign.toNat<(mY day f.signs).length from kJ)));have hex:=aoW r h.realm hl f.bill (aG f day).signs[sign.toNat].who (bA r forum f sign day).1.sum (bX r forum f day) (min day 100000) yf auF;have bM:(bm r forum f sign day).own=qV r (aG f day).signs[sign.toNat].who:=by
  show qV r (cL (aG f day) sign).who=_;rw[xX]
 have eT:(bm r forum f sign day).exch (rateF r)=if fY (bS r forum 17 (cU r forum f sign day))=1 then pO (rateF r) (qV r (aG f day).signs[sign.toNat].who) f.bill.currency (bA r forum f sign day).1.sum (bX r forum f day) (min day 100000) else 0:=by
  unfold Due.exch;rw[bM];by_cases e:fY (bS r forum 17 (cU r forum f sign day))=1
  ·rw[if_pos ⟨hn,e⟩,if_pos e];rfl
  ·rw[if_neg (fun q=>e q.2),if_neg e]
 have HJ:(bm r forum f sign day).rateF=if f.bill.rate=0 then min 1000 (max 0 (dE (bS r forum 16 (cU r forum f sign day)))) else f.bill.rate:=rfl;generalize (bm r forum f sign day).interest=i at*;generalize (bm r forum f sign day).exch (rateF r)=x at*;generalize (bm r forum f sign day).rateF=q at*;have nm:=fin i x atq (by have:=CA.1;have:=CA.2;have:(bm r forum f sign day).sum=(bA r forum f sign day).1.sum:=rfl;omega);by_cases h0:f.bill.rate=0
 ·rw[if_pos h0] at HJ ⊢;refine⟨_,pU 16,_,Ws _,?_⟩;have eE:(if(if 0<(D.int (dE (bS r forum 16 (cU r forum f sign day)))).i then(D.int (dE (bS r forum 16 (cU r forum f sign day)))).i else 0)<1000 then if 0<(D.int (dE (bS r forum 16 (cU r forum f sign day)))).i then D.int (dE (bS r forum 16 (cU r forum f sign day))) else D.int 0 else D.int 1000)=D.int q:=by
   rw[HJ];simp only[xp,CS,Ii,CQ,Ig]
  rw[eE];refine⟨_,hint,_,pU 17,_,EL _,?_⟩;simp only[xp];by_cases ht:fY (bS r forum 17 (cU r forum f sign day))=1
  ·rw[if_pos ht] at eT;rw[←eT] at hex;rw[if_pos ht];simp[HL,Cr,kJ];refine⟨_,hex,?_⟩;refine loop i x _ (by simp) (by simp) (by simp) (by simp) _ _ fun ρ' h1 h2=>?_;simp[h1,h2,nm,yz,CP];rfl
  ·rw[if_neg ht] at eT;rw[if_neg ht];refine loop i x _ (by simp) (by simp) (by simp) (by simp[eT]) _ _ fun ρ' h1 h2=>?_;simp[h1,h2,nm,yz,CP];rfl
 ·rw[if_neg h0] at HJ ⊢;rw[HJ] at hint;refine⟨_,hint,_,pU 17,_,EL _,?_⟩;simp only[xp];by_cases ht:fY (bS r forum 17 (cU r forum f sign day))=1
  ·rw[if_pos ht] at eT;rw[←eT] at hex;rw[if_pos ht];simp[HL,Cr,kJ];refine⟨_,hex,?_⟩;refine loop i x _ (by simp) (by simp) (by simp) (by simp) _ _ fun ρ' h1 h2=>?_;simp[h1,h2,nm,yz,CP];rfl
  ·rw[if_neg ht] at eT;rw[if_neg ht];refine loop i x _ (by simp) (by simp) (by simp) (by simp[eT]) _ _ fun ρ' h1 h2=>?_;simp[h1,h2,nm,yz,CP];rfl
end Rm
namespace Rm
open Go Go.Proofs Cx
theorem anQ {r:Realm}{b:Bill}(hr:RightD r)(hc:eB r=0)(O0:aF b.city r.cities.length=true)(dM:aF b.pay r.cities.length=true)(hd:fb b.day=true)(hk:b.tenor.kind=3)(hu:b.tenor.unit=0)
 (hn:fb b.tenor.n=true) {g:Int} (hg:0≤g∧g≤20000) (hs:b.tenor.n+g≤100000):m9 r b (-1) g=mV r b.pay (b.tenor.n+g):=by
 have ff:=D3 r hr.small;rw[hc] at ff;have gx:0≤b.tenor.n∧b.tenor.n≤100000:=by simpa [fb] using hn
 have oI:=To r hr.halts b.pay (b.tenor.n+g) (by simpa [aF] using dM) hr.cities (by omega) (by omega);have hb:aj T CV [aZ r,dp b,.int (-1)] (.tup [.int b.tenor.n,.int 0]):=by
  refine .of_tree rfl xh zy ?_;simp[uo,hk]
 have h:aj T CU [aZ r,dp b,.int (-1),.int g] (.tup [.int (mV r b.pay (b.tenor.n+g)).1,.int (mV r b.pay (b.tenor.n+g)).2]):=by
  have mz:=yk r b.city;have YH:=yk r b.pay;have vh:=tp b.day;have YI:=tp b.tenor.n;have YJ:=zI b.tenor;rw[O0] at mz;rw[dM] at YH;rw[hd] at vh;rw[hn] at YI;rw[show Mk b.tenor=false from by simp[Mk,hk]] at YJ;have hw:IntKind.i64.wrap (b.tenor.n+g)=b.tenor.n+g:=aW (by omega);have gR:¬g<0:=by omega
  have fy:¬20000<g:=by omega
  have dj:¬100000<b.tenor.n+g:=by omega
  refine .of_tree rfl Nd Vk ?_;simp[Er];refine⟨_,ff,?_⟩;simp;refine⟨_,mz,?_⟩;simp;refine⟨_,YH,?_⟩;simp;refine⟨_,vh,?_⟩;simp[hk,hu,gR,fy];refine⟨_,YJ,?_⟩;simp;refine⟨_,hb,?_⟩;simp;refine⟨_,YI,?_⟩;simp[hw,dj];refine⟨_,oI,?_⟩;simp
 have h2:=h.det (MU r hr b (-1) g);simp at h2;exact Prod.ext h2.1.symm h2.2.symm
end Rm
namespace Rm
open Go Go.Proofs Cx
def uD:Order:=⟨⟨#[103,101,110,101,118,97]⟩,false,[],[⟨17,⟨1,1,[]⟩⟩]⟩
def cf (a b:Int):Realm:=⟨[⟨#[102,114,97,110,99]⟩,⟨#[112,111,117,110,100]⟩],[⟨⟨#[76,121,111,110]⟩,0,0,[],[],[]⟩,⟨⟨#[76,111,110,100,111,110]⟩,0,1,[],[],[]⟩],[⟨0⟩],[⟨⟨#[65]⟩,1,0⟩,⟨⟨#[66]⟩,0,0⟩],[uD],[],[⟨0,1,1,a,0⟩,⟨0,1,1,b,120⟩],[]⟩
def rY:Bill:=⟨0,1,1,1000,0,⟨3,100,0⟩,10,0,0,-1,60,0,1⟩
def eZ:File:=⟨rY,[⟨0,0,0,-1,-1,0,10,0,0⟩],[],[⟨4,1,1,0,-1,5,101,0,0⟩],[]⟩
set_option maxRecDepth 10000 in
theorem agZ (a b:Int):aj T abt [.int a,.int b] (.tup [aZ (cf a b),bT eZ]):=by
 refine .of_tree rfl ai3 aAA ?_;simp[Ui];exact⟨rfl,rfl⟩
theorem aCA {a b:Int}(ha:aT a)(hb:aT b):Small (cf a b):=by
 refine⟨by simp[cf],by simp[cf],by simp[cf],by simp[cf],by simp[cf],by simp[cf],by simp[cf],by simp[cf],?_,?_,?_⟩
 ·intro c hc;simp[cf] at hc;rcases hc with rfl|rfl<;>simp
 ·intro o ho;obtain rfl:o=uD:=by simpa [cf] using ho
  simp[uD]
 ·intro x hx;have h1:aT 1:=by unfold aT;omega
  simp[cf] at hx;rcases hx with rfl|rfl
  ·exact⟨h1,ha⟩
  ·exact⟨h1,hb⟩
theorem agY {a b:Int}(ha:aT a)(hb:aT b):RightD (cf a b):=⟨aCA ha hb,by simp[sc,cf]⟩
theorem aCz (a b:Int):Right (cf a b):=by
 refine⟨?_,by simp[cf],?_⟩
 ·intro o ho;obtain rfl:o=uD:=by simpa [cf] using ho
  exact⟨by decide,fun ch h=>by simp[uD] at h⟩
 ·intro o ho;obtain rfl:o=uD:=by simpa [cf] using ho
  refine⟨⟨⟨by decide,fun ch h=>by simp[uD] at h⟩,by decide,?_⟩,by decide⟩;intro x hx;simp[uD] at hx;subst hx;exact⟨by unfold aT;decide,.mk _ _ [] (by unfold aT;omega) (by unfold aT;omega) (by decide) (fun _ h=>by cases h)⟩
theorem aCy:FewS eZ:=⟨by decide,by decide,by decide,by decide⟩
theorem agX {a b:Int}(ha:aT a)(hb:aT b)(h:eB (cf a b)=0):ORun (cf a b) eZ:=by
 refine⟨aCz a b,agY ha hb,aCy,L6 h,?_,fun s hs=>?_,fun c hc _=>?_⟩
 ·refine⟨by simp[eZ,rY],by simp[eZ,rY],fun c hc=>by simp[eZ] at hc,fun s hs hk=>?_⟩;simp[eZ] at hs;subst hs;simp at hk
 ·simp[eZ] at hs;subst hs;simp[cf]
 ·simp[eZ] at hc;subst hc;simp
theorem zD {a b:Int}(ha:aT a)(hb:aT b)(hc:eB (cf a b)=0)(day:Int)(h1:(aG eZ day).signs≠[])(h3:max (dE (iY (cf a b) 0 6 (aG eZ day) day)) 0=0)(h5:mV (cf a b) 0 100=(100,0)):bX (cf a b) 0 eZ day=100:=by
 have h2:iN (aG eZ day)=-1:=by
  unfold iN;have:(aG eZ day).acts.find? (ku (aG eZ day))=none:=by
   refine List.find?_eq_none.2 fun a _=>?_;simp[ku,aG,eZ,rY]
  rw[this];rfl
 have h4:m9 (cf a b) rY (-1) 0=mV (cf a b) 0 100:=anQ (b:=rY) (agY ha hb) hc (by simp[aF,rY,cf]) (by simp[aF,rY,cf]) (by decide) rfl rfl (by decide) (by decide) (by decide);unfold bX;rw[if_neg h1,h2,h3,show eZ.bill=rY from rfl,h4,h5];simp
theorem i20:aT 20:=by unfold aT;omega
theorem i25:aT 25:=by unfold aT;omega
theorem aCs:bY (cf 20 25) 0 eZ 0 100=⟨1000,0,0,0,0,1000,0⟩:=by
 have hm:=zD i20 i25 (by kernel_rfl) 100 (by decide) (by kernel_rfl) (by kernel_rfl);unfold bY bm bA dR cU;rw[ql,hm];show Due.owed _ _=_;kernel_rfl
theorem aCt:bY (cf 20 25) 0 eZ 0 101=⟨1000,0,5,0,0,1005,0⟩:=by
 have hm:=zD i20 i25 (by kernel_rfl) 101 (by decide) (by kernel_rfl) (by kernel_rfl);unfold bY bm bA dR cU;rw[ql,hm];show Due.owed _ _=_;kernel_rfl
theorem aCu:bY (cf 20 25) 0 eZ 0 106=⟨1000,1,5,0,0,1006,0⟩:=by
 have hm:=zD i20 i25 (by kernel_rfl) 106 (by decide) (by kernel_rfl) (by kernel_rfl);unfold bY bm bA dR cU;rw[ql,hm];show Due.owed _ _=_;kernel_rfl
theorem aCv:bY (cf 20 25) 0 eZ 0 130=⟨1000,5,5,0,0,1010,0⟩:=by
 have hm:=zD i20 i25 (by kernel_rfl) 130 (by decide) (by kernel_rfl) (by kernel_rfl);unfold bY bm bA dR cU;rw[ql,hm];show Due.owed _ _=_;kernel_rfl
theorem aCw:bY (cf 25 20) 0 eZ 0 130=⟨1000,5,5,200,0,1210,0⟩:=by
 have hm:=zD i25 i20 (by kernel_rfl) 130 (by decide) (by kernel_rfl) (by kernel_rfl);unfold bY bm bA dR cU;rw[ql,hm];show Due.owed _ _=_;kernel_rfl
theorem aCx:bY (cf 20 25) 0 eZ 1 130=⟨0,0,0,0,0,0,0⟩:=by
 have hm:=zD i20 i25 (by kernel_rfl) 130 (by decide) (by kernel_rfl) (by kernel_rfl);unfold bY bm bA dR cU;rw[ql,hm];show Due.owed _ _=_;kernel_rfl
theorem Ee {a b:Int}(ha:aT a)(hb:aT b)(hc:eB (cf a b)=0)(day:Int)(o:Owed)(h:bY (cf a b) 0 eZ 0 day=o):aj T abw [.int a,.int b,.int day,mj o] (.bool true):=by
 have k:=qL (cf a b) 0 eZ 0 day (agX ha hb hc);rw[h] at k;refine .of_tree rfl ai6 aAD ?_;simp[Ul];refine⟨_,agZ a b,?_⟩;simp;refine⟨_,k,?_⟩;simp
theorem Me:aj T abv [] (.bool true):=by
 have c1:eB (cf 20 25)=0:=by kernel_rfl
 have c2:eB (cf 25 20)=0:=by kernel_rfl
 have s1:=Ee i20 i25 c1 100 _ aCs;have s2:=Ee i20 i25 c1 101 _ aCt;have s3:=Ee i20 i25 c1 106 _ aCu;have s4:=Ee i20 i25 c1 130 _ aCv;have s5:=Ee i25 i20 c2 130 _ aCw;have k:=qL (cf 20 25) 0 eZ 1 130 (agX i20 i25 c1);rw[aCx] at k;have r1:=ED (cf 20 25) (L6 c1) (by simp[cf]) 1 0 50;have r2:=ED (cf 20 25) (L6 c1) (by simp[cf]) 0 0 50;rw[show rateF (cf 20 25) 1 0 50=(20,1,true) from by kernel_rfl] at r1;rw[show rateF (cf 20 25) 0 0 50=(0,0,false) from by kernel_rfl] at r2;refine .of_tree rfl ai5 aAC ?_;simp[Uk];refine⟨_,agZ 20 25,?_⟩;simp;refine⟨_,r1,_,r2,_,s1,?_⟩;simp;refine⟨_,s2,?_⟩;simp;refine⟨_,s3,_,s4,?_⟩;simp;refine⟨_,s5,?_⟩;simp;refine⟨_,k,?_⟩;simp
end Rm
namespace Rm
open Go Go.Proofs Cx
theorem aih (o:Order)(q:Int)(cs:List Cell)(hq:(lQ q).1=0)(hk:(kB o q cs).1.known=true):0≤(kB o q cs).1.n∧(kB o q cs).1.n≤20000:=by
 unfold kB at hk ⊢;split at hk
 ·cases hk
 ·rename_i h;rw[if_neg h];simp only at hk ⊢;split at hk
  ·rename_i h2;rw[if_pos h2];simp only;omega
  ·rename_i h2;exact absurd ⟨hq,hk⟩ h2
theorem ain (r:Realm)(forum q:Int)(c:Case)(hq:(lQ q).1=0)(hk:(bS r forum q c).cell.known=true):0≤(bS r forum q c).cell.n∧(bS r forum q c).cell.n≤20000:=by
 unfold bS at hk ⊢;split at hk
 ·rename_i h;exfalso;have:(eJ r forum q c).1.cell=dI:=by
   unfold eJ
   repeat' split
   all_goals rfl
  rw[this] at hk;cases hk
 ·rename_i h;rw[if_neg h];exact aih _ _ _ hq hk
theorem aw6 (r:Realm)(forum q:Int)(c:Case)(hq:(lQ q).1=0):dE (bS r forum q c)=-1∨(0≤dE (bS r forum q c)∧dE (bS r forum q c)≤20000):=by
 unfold dE;split
 ·exact .inl rfl
 ·rename_i h;refine .inr (ain r forum q c hq ?_);cases e:(bS r forum q c).cell.known
  ·exact absurd (.inr e) h
  ·rfl
end Rm
namespace Rm
open Go Go.Proofs Cx
theorem ao1 {r:Realm}{f:File}(h:om r f=true)(hc:eB r=0):ot r f=true:=by simp[ot,h,hc]
def ahh (d:D):Prop:=∃b:Bool,d=.bool b
theorem Bt (r:Realm)(hr:r.OK)(f:File)(nj:f.OK):∃d,aj T abu [aZ r,bT f] d∧∃b:Bool,d=.bool b∧(b=true→ot r f=true∧PaperOK r f):=by
 refine aj.ex_of_tree rfl ai4 aAB ?_;have BJ:∃b:Bool,aj T QL [bT f] (.bool b):=by
  have h:∃d,aj T QL [bT f] d∧ahh d:=by
   refine aj.ex_of_tree rfl ajp aAW ?_;simp[UD];split
   ·exact⟨_,rfl⟩
   ·exact⟨_,rfl⟩
  obtain⟨d,hd,b,rfl⟩:=h;exact⟨b,hd⟩
 simp[Uj];refine⟨_,ayr r f hr,?_⟩;cases e1:om r f
 ·simp
 have hs:Small r:=Oo hr (by simp only[om,Bool.and_eq_true] at e1;exact e1.1.1);simp;refine⟨_,D3 r hs,?_⟩;by_cases e2:eB r=0
 case neg=>simp[e2]
 simp[e2];obtain⟨b,hb⟩:=BJ;refine⟨_,hb,?_⟩;cases b
 ·simp
 obtain⟨d,hd,e,rfl,he⟩:=axZ r hs f nj;simp;refine⟨_,hd,?_⟩;simp;by_cases e0:e=0
 ·exact .inr ⟨e0,ao1 e1 e2,he.1 e0⟩
 ·exact .inl e0
theorem ahs {r:Realm}{f:File}{a:Act}(h:pB r f a=true)(hc:lb a=true):0≤a.sum∧a.sum≤1099511627776:=by
 unfold pB at h;split at h
 ·cases h
 have hk:a.kind=4∨a.kind=5:=by simpa [lb] using hc
 unfold zR at h;rw[if_neg (by omega),if_pos (by omega)] at h;simp[wi] at h;omega
theorem C1 {r:Realm}{f:File}(G:Good r f)(hc:eB r=0)(hP:PaperOK r f):ORun r f:=by
 refine⟨G.right,G.rightD,G.few,L6 hc,hP.sums,fun s hs=>?_,fun a ha hk=>?_⟩
 ·obtain⟨i,hi,rfl⟩:=List.getElem_of_mem hs;exact(hP.sign i hi).who
 ·obtain⟨i,hi,rfl⟩:=List.getElem_of_mem ha;exact ahs (hP.act i hi).fits hk
def ni (f:File)(l:List Fact):File:={f with facts:=l}
theorem ahz {x y z:Fact}(h1:kz x y)(h2:kz y z):kz x z:=by unfold kz at*;omega
theorem ao0 {r:Realm}{f:File}(h:PaperOK r f):f.facts.Pairwise kz:=by
 rw[List.pairwise_iff_getElem];intro i j hi hj cw
 have next:∀k (hk:k+1<f.facts.length),kz (f.facts[k]'(by omega)) f.facts[k+1]:=by
  intro k hk;have h1:=Bv h.facts (k+1) hk;have hs:f.facts.getD (k+1) default=f.facts[k+1]:=by simp[hk]
  have dj:f.facts.getD (k+1-1) default=f.facts[k]:=by simp[show k<f.facts.length by omega]
  unfold sF at h1;simp only[hs,dj] at h1;split at h1
  ·cases h1
  split at h1
  ·cases h1
  split at h1
  ·cases h1
  rw[if_neg (by omega)] at h1;split at h1
  ·rename_i h2;exact h2
  ·cases h1
 obtain⟨d,rfl⟩:∃d,j=i+1+d:=⟨j-i-1,by omega⟩
 clear cw
 induction d with
 |zero=>exact next i hj
 |succ d ih=>exact ahz (ih (by omega) next) (next (i+1+d) hj)
theorem ao6 {l m:List Fact}(hs:l.Sublist m)(hp:m.Pairwise kz)(k s:Int)(x:Fact)(h:l.find? (ld k s)=some x):m.find? (ld k s)=some x:=by
 have hx:=List.mem_of_find?_eq_some h;have hb:=List.find?_some h;have hm:=hs.subset hx;cases e:m.find? (ld k s) with
 |none=>exact absurd hb (by have:=List.find?_eq_none.1 e x hm;simpa using this)
 |some y=>
  have hy:=List.mem_of_find?_eq_some e;have hyb:=List.find?_some e
  congr 1
  simp[ld] at hb hyb;refine Classical.byContradiction fun aE=>?_;obtain⟨i,hi,rfl⟩:=List.getElem_of_mem hy;obtain⟨j,hj,rfl⟩:=List.getElem_of_mem hm;have cw:i≠j:=fun q=>aE (by subst q;rfl);have vt:=List.pairwise_iff_getElem.1 hp;rcases Nat.lt_or_gt_of_ne cw with q|q
  ·have:=vt i j hi hj q;unfold kz at this;omega
  ·have:=vt j i hj hi q;unfold kz at this;omega
theorem avv {r:Realm}{f:File}(h:PaperOK r f){l:List Fact}(hs:l.Sublist f.facts):MoreF (ni f l) f:=by
 refine⟨⟨rfl,rfl,rfl,rfl⟩,fun k s hk=>?_⟩;unfold cF at hk ⊢;have e:(ni f l).facts=l:=rfl;rw[e] at hk ⊢;cases e2:l.find? (ld k s) with
 |none=>rw[e2] at hk;cases hk
 |some x=>rw[ao6 hs (ao0 h) k s x e2]
theorem number16 (r:Realm)(forum:Int)(c:Case):dE (bS r forum 16 c)=-1∨0≤dE (bS r forum 16 c):=by
 rcases aw6 r forum 16 c (by decide) with h|h
 ·exact .inl h
 ·exact .inr h.1
def ym (drop:Nat)(i:Nat):Bool:=decide (bD .and .u64 (bD .shr .u64 drop ((i:Int).tmod 64)) 1=0)
def qg (drop:Nat)(l:List Fact)(k:Nat):List Fact:=((List.range k).filter (ym drop)).map fun i=>l.getD i default
theorem ZX (drop:Nat)(l:List Fact)(k:Nat):qg drop l (k+1)=qg drop l k++if ym drop k then[l.getD k default] else[]:=by
 unfold qg;rw[List.range_succ,List.filter_append,List.map_append]
 congr 1
 cases h:ym drop k<;>simp[List.filter,h]
theorem Qk (drop:Nat)(l:List Fact):∀k,k≤l.length→(qg drop l k).Sublist (l.take k)
 |0,_=>by simp[qg]
 |k+1,hk=>by
  have af:k<l.length:=hk;rw[ZX,List.take_succ_eq_append_getElem af];refine(Qk drop l k (by omega)).append ?_;split
  ·simp[af]
  ·exact List.nil_sublist _
theorem ag4 (r:Realm)(hr:r.OK)(forum:Int)(f:File)(nj:f.OK)(sign day:Int)(drop:Nat)(sO:drop<18446744073709551616):aj T abq [aZ r,.int forum,bT f,.int sign,.int day,.v (.int .u64 drop)] (.bool true):=by
 refine .of_tree rfl ai1 aAy ?_;simp[Ug];obtain⟨d,hd,b,rfl,hb⟩:=Bt r hr f nj;refine⟨_,Me,_,hd,?_⟩;cases b
 ·simp
 obtain⟨hg,hP⟩:=hb rfl;have G:=BF hr hg;have ff:eB r=0:=by simp[ot] at hg;exact hg.2
 have hO:=C1 G ff hP;have jI:=ao2 hg;simp;refine aO.forRounds f.facts.length (fun k=>[.int k]) (fun k=>[sk f.bill (signs f.signs) (alters f.alters) (acts f.acts) (mF (qg drop f.facts k)),facts (qg drop f.facts k)]) ?_ (fun k hk=>?_) ?_
 ·simp[facts,qg];rfl
 ·have hw:=bI hk (by omega);have hlen:=(Qk drop f.facts k (by omega)).length_le;rw[List.length_take] at hlen;rw[ZX];generalize qg drop f.facts k=A at*;have YM:ym drop k=true↔bD .and .u64 (bD .shr .u64 drop ((k:Int).tmod 64)) 1=0:=by simp[ym]
  have atM:0≤(k:Int).tmod 64:=by
   rw[Int.tmod_eq_emod_of_nonneg (by omega)];omega
  simp[afI,LL,hk,hw];refine⟨atM,?_⟩;by_cases h:ym drop k=true
  ·rw[if_pos (YM.1 h)];simp only[h,if_true];exact⟨by omega,by cases A<;>rfl,by simp[facts]⟩
  ·rw[if_neg (fun e=>h (YM.2 e))];simp[h]
 ·have bV:=Qk drop f.facts f.facts.length (Nat.le_refl _);rw[List.take_length] at bV;have hm:=avv hP bV;simp[afI,LL];generalize qg drop f.facts f.facts.length=L at*;have hLl:=bV.length_le;have Ha:ORun r (ni f L):=⟨hO.right,hO.rightD,⟨hO.few.signs,hO.few.alters,hO.few.acts,Nat.le_trans hLl hO.few.facts⟩,hO.realm,⟨hO.sums.bill,hO.sums.rate,hO.sums.alters,hO.sums.signs⟩,hO.who,hO.acts⟩
  have k1:=qL r forum (ni f L) sign day Ha;have k2:=qL r forum f sign day hO;have hle:=(anS r forum hm sign day (number16 r forum _)).owed (GI r forum hO.sums sign day) (LH hO.realm);refine⟨_,k1,_,k2,?_⟩;obtain⟨q1,q2,q3,q4,q5,q6,q7,q8⟩:=(show(bY r forum (ni f L) sign day).sum≤(bY r forum f sign day).sum∧(bY r forum (ni f L) sign day).interest≤(bY r forum f sign day).interest∧(bY r forum (ni f L) sign day).costs=(bY r forum f sign day).costs∧
   (bY r forum (ni f L) sign day).exchange≤(bY r forum f sign day).exchange∧(bY r forum (ni f L) sign day).rest≤(bY r forum f sign day).rest∧(bY r forum (ni f L) sign day).paid=0∧(bY r forum f sign day).paid=0∧(bY r forum (ni f L) sign day).currency=(bY r forum f sign day).currency from hle)
  generalize bY r forum (ni f L) sign day=x at*;generalize bY r forum f sign day=y at*;simp[q1,q2,q3,q4,q5,q6,q7,q8]
@[simp] theorem aIX (x:File)(a0 a1 a2 a3 a4 a5 a6 a7 a8 a9 gH gI gJ gK gL iV iW jC iX:D):(cH [a0,a1,a2,a3,a4,a5,a6,a7,a8,a9,gH,gI,gJ,gK,gL,iV,iW,jC,iX] 0 [.int x.bill.drawer,.int x.bill.drawee,.int x.bill.payee,.int x.bill.sum,.int x.bill.currency,.int x.bill.tenor.kind,.int x.bill.tenor.n,.int x.bill.tenor.unit,.int x.bill.day,.int x.bill.city,.int x.bill.pay,.int x.bill.need,.int x.bill.rate,.int x.bill.flags,.int x.bill.parts,signs x.signs,alters x.alters,acts x.acts,facts x.facts])[16]?.getD D.none=alters x.alters:=_root_.id rfl
@[simp] theorem aIY (x:File)(a0 a1 a2 a3 a4 a5 a6 a7 a8 a9 gH gI gJ gK gL iV iW jC iX:D):(cH [a0,a1,a2,a3,a4,a5,a6,a7,a8,a9,gH,gI,gJ,gK,gL,iV,iW,jC,iX] 0 [.int x.bill.drawer,.int x.bill.drawee,.int x.bill.payee,.int x.bill.sum,.int x.bill.currency,.int x.bill.tenor.kind,.int x.bill.tenor.n,.int x.bill.tenor.unit,.int x.bill.day,.int x.bill.city,.int x.bill.pay,.int x.bill.need,.int x.bill.rate,.int x.bill.flags,.int x.bill.parts,signs x.signs,alters x.alters,acts x.acts,facts x.facts])[17]?.getD D.none=acts x.acts:=_root_.id rfl
theorem ag3 (r:Realm)(hr:r.OK)(forum:Int)(f:File)(nj:f.OK)(sign day more:Int):aj T abp [aZ r,.int forum,bT f,.int sign,.int day,.int more] (.bool true):=by
 refine .of_tree rfl ai0 aAx ?_;simp[Uf];obtain⟨d,hd,b,rfl,hb⟩:=Bt r hr f nj;refine⟨_,Me,_,hd,?_⟩;cases b
 ·simp
 obtain⟨hg,hP⟩:=hb rfl;have G:=BF hr hg;have ff:eB r=0:=by simp[ot] at hg;exact hg.2
 have hO:=C1 G ff hP;have hf:=hO.few;simp;intro c1 c2 c3 c4;have hw:IntKind.i64.wrap (day+more)=day+more:=aW (by omega);have rk:=fun d=>D5 f d (by have:=hf.signs;omega) (by have:=hf.acts;omega) (by have:=hf.alters;omega) (by have:=hf.facts;omega);rw[hw];refine⟨_,rk day,?_⟩;simp;refine⟨_,rk (day+more),?_⟩;simp;intro e1 e2 e3;have atw:=anR r forum sign (show day≤day+more by omega) (aiY (f:=f) (d:=day) (e:=day+more) (by omega) (by omega));have k1:=qL r forum f sign day hO;have k2:=qL r forum f sign (day+more) hO;obtain⟨q1,q2,q3,q4⟩:=(show(bY r forum f sign day).sum=(bY r forum f sign (day+more)).sum∧(bY r forum f sign day).costs=(bY r forum f sign (day+more)).costs∧(bY r forum f sign day).interest≤(bY r forum f sign (day+more)).interest∧(bY r forum f sign day).currency=(bY r forum f sign (day+more)).currency from
  atw.owed (GI r forum hO.sums sign (day+more)) (rateF r))
 refine⟨_,k1,_,k2,?_⟩;generalize bY r forum f sign day=x at*;generalize bY r forum f sign (day+more)=y at*;simp[q1,q2,q3,q4]
end Rm
