/-
  Shared texts of this claim.
-/
import Derived.Test.YtopjnikcppafdaaGreatDoorKAP
import Derived.Test.YtopjnikcppafdaaGreatDoorKAO
import Derived.Test.YtopjnikcppafdaaGreatDoorKAJ
set_option linter.unusedSimpArgs false
set_option linter.unusedVariables false
noncomputable section
namespace Rm
open Go Go.Proofs Cx
def Du (f:File)(i part:Int):Bool:=decide (i=0)||decide ((fc f i).part=part)
theorem ah8 (f:File)(i part:Int)(h:i=0∨(0≤i∧i<f.signs.length)):aj T 142 [cg f,.int i,.int part] (.bool (Du f i part)):=by
 refine .of_tree rfl (lA 147 (by kernel_rfl)) azY ?_;unfold Du;by_cases h0:i=0
 ·simp[Pb,h0]
 ·obtain⟨h1,h2⟩:=h.resolve_left h0;have h3:i.toNat<f.signs.length:=by omega
  simp[Pb,h0,h1,h2,h3,fc]
def Jj (f:File)(i:Int)(kinds:List Int):Bool:=wi (fc f i).for_ 0 (i-1)&&(Du f (fc f i).for_ (fc f i).part&&hasB kinds (fc f (fc f i).for_).kind)
theorem awv (f:File)(i:Int)(kinds:List Int)(h:0≤i∧i<f.signs.length)(hl:f.signs.length≤100000)(hk:kinds.length≤100):aj T 141 [cg f,.int i,ints kinds] (.bool (Jj f i kinds)):=by
 refine .of_tree rfl (lA 146 (by kernel_rfl)) azT ?_;have h1:i.toNat<f.signs.length:=by omega
 have hw:IntKind.i64.wrap (i-1)=i-1:=aN (by omega);have hs:fc f i=f.signs[i.toNat]:=by simp[fc,h1]
 unfold Jj;rw[hs];simp[Yf,h,h1,hw];refine⟨_,fb _ _ _,?_⟩;cases hb:wi f.signs[i.toNat].for_ 0 (i-1)
 ·simp
 ·have cf:0≤f.signs[i.toNat].for_∧f.signs[i.toNat].for_<f.signs.length:=by
   simp[wi] at hb;omega
  have h2:f.signs[i.toNat].for_.toNat<f.signs.length:=by omega
  have dT:fc f f.signs[i.toNat].for_=f.signs[f.signs[i.toNat].for_.toNat]:=by simp[fc,h2]
  rw[dT];simp;refine⟨_,ah8 f _ _ (.inr cf),?_⟩;cases df:Du f f.signs[i.toNat].for_ f.signs[i.toNat].part
  ·simp
  simp[cf,h2];exact xo kinds _ (by omega)
def RI (r:Realm)(b:Bill)(s:Sign)(B:List Int→Bool):Bool:=
 if s.kind=0 then((((decide (s.who=b.drawer)&&decide (s.sum=0))&&decide (bX .or .i64 s.flags 1=1))&&decide (s.part=0))&&decide (s.day=b.day))&&decide (s.city=b.city)
 else if s.kind=1 then decide (s.who=b.drawee)&&(wi s.sum 1 1099511627776&&decide (s.flags=0))
 else if s.kind=2 then((wi s.to (-1) ((r.firms.length:Int)-1)&&decide (s.sum=0))&&wi s.flags 0 7)&&decide (bX .and .i64 s.flags 6≠6)
 else if s.kind=3 then(decide (s.sum=0)&&decide (s.flags=0))&&B [0,1,2,4]
 else if s.kind=4 then((wi s.sum 1 1099511627776&&decide (s.flags=0))&&decide (s.who≠b.drawee))&&B [0,2]
 else false
def Ld (r:Realm)(b:Bill)(i:Nat)(s:Sign)(B:List Int→Bool):Bool:=
 if ¬(i=0↔s.kind=0)∨(¬s.kind=2∧¬s.to=-1) then false
 else if(¬s.kind=3∧¬s.kind=4)∧¬s.for_=-1 then false
 else RI r b s B
def yi (r:Realm)(f:File)(i:Nat):Bool:=Ld r f.bill i (f.signs.getD i default) (Jj f i)
theorem awx (r:Realm)(hr:Small r)(f:File)(i:Nat)(h:i<f.signs.length)(hl:f.signs.length≤100000):aj T 98 [aT r,cg f,.int i] (.bool (yi r f i)):=by
 refine .of_tree rfl (lA 145 (by kernel_rfl)) azV ?_;have pf:=hr.firms;have hw:IntKind.i64.wrap ((r.firms.length:Int)-1)=(r.firms.length:Int)-1:=aN (by omega);have hs:f.signs.getD i default=f.signs[i]:=by simp[h]
 have Sa:=fun ks hk=>awv f i ks ⟨by omega,by omega⟩ hl hk;unfold yi;rw[hs];generalize hB:Jj f i=B at Sa ⊢;generalize hX:Ld r f.bill i f.signs[i] B=X;simp[Yh,h];generalize f.signs[i]=s at*;unfold Ld at hX;by_cases h1:¬(i=0↔s.kind=0)∨(¬s.kind=2∧¬s.to=-1)
 ·rw[if_pos h1] at hX ⊢;exact hX.symm
 rw[if_neg h1] at hX ⊢;by_cases h2:(¬s.kind=3∧¬s.kind=4)∧¬s.for_=-1
 ·rw[if_pos h2] at hX ⊢;exact hX.symm
 rw[if_neg h2] at hX ⊢;refine⟨_,fb _ _ _,?_⟩;unfold RI at hX;by_cases k0:s.kind=0
 ·rw[if_pos k0] at hX ⊢;rw[←hX];by_cases a:(((s.who=f.bill.drawer∧s.sum=0)∧bX BinOp.or IntKind.i64 s.flags 1=1)∧s.part=0)∧s.day=f.bill.day
  ·simp[a]
  ·rw[if_neg a]
   congr 1
   rw[eq_comm,aaH];intro e;simp at e;exact a e.1
 rw[if_neg k0] at hX ⊢;by_cases k1:s.kind=1
 ·rw[if_pos k1] at hX ⊢;rw[←hX];by_cases a:s.who=f.bill.drawee<;>cases wi s.sum 1 1099511627776<;>simp[a]
 rw[if_neg k1] at hX ⊢;by_cases k2:s.kind=2
 ·rw[if_pos k2] at hX ⊢;rw[←hX,hw];refine⟨_,fb _ _ _,?_⟩;cases wi s.to (-1) ((r.firms.length:Int)-1)
  ·simp
  by_cases a:s.sum=0
  case neg=>simp[a]
  simp[a];refine⟨_,fb _ _ _,?_⟩;cases wi s.flags 0 7<;>simp
 rw[if_neg k2] at hX ⊢;by_cases k3:s.kind=3
 ·rw[if_pos k3] at hX ⊢;rw[←hX];by_cases a:s.sum=0∧s.flags=0
  case neg=>
   rw[if_neg a,if_neg a]
   congr 1
   rw[eq_comm,aaH];intro e;simp at e;exact a e.1
  rw[if_pos a];refine⟨_,Sa [0,1,2,4] (by decide),?_⟩;simp[a]
 rw[if_neg k3] at hX ⊢;by_cases k4:s.kind=4
 ·rw[if_pos k4] at hX ⊢;rw[←hX];cases wi s.sum 1 1099511627776
  ·simp
  by_cases a:s.flags=0∧¬s.who=f.bill.drawee
  case neg=>
   simp[a]
  simp[a];exact Sa [0,2] (by decide)
 rw[if_neg k4] at hX ⊢;exact hX.symm
end Rm
namespace Rm
open Go Go.Proofs Cx
def um (f:File)(i:Nat):Int:=if i=0 then f.bill.day else(f.signs.getD (i-1) default).day
def ID (f:File)(i:Nat)(s:Sign):Bool:=(f.signs.take i).any fun x=>(decide (s.kind=1)&&decide (x.kind=1))&&decide (x.part=s.part)
def Ds (r:Realm)(f:File)(i:Nat):Int:=
 let s:=f.signs.getD i default
 if wi s.part 0 (f.bill.parts-1)=false then 15
 else if aE s.who r.firms.length=false∨aE s.city r.cities.length=false then 1
 else if wi s.day (um f i) 100000=false∨(i=0∧¬s.day=um f i) then 13
 else if yi r f i=false then 14
 else if ID f i s=true then 5 else 0
theorem ah7 (r:Realm)(hr:Small r)(f:File)(hp:1≤f.bill.parts∧f.bill.parts≤4)(i:Nat)(h:i<f.signs.length)(hl:f.signs.length≤100000):aj T 58 [aT r,cg f,.int i] (.int (Ds r f i)):=by
 refine .of_tree rfl (lA 143 (by kernel_rfl)) azX ?_;have pf:=hr.firms;have Se:=hr.cities;have iV:IntKind.i64.wrap ((r.firms.length:Int)-1)=(r.firms.length:Int)-1:=aN (by omega);have cQ:IntKind.i64.wrap ((r.cities.length:Int)-1)=(r.cities.length:Int)-1:=aN (by omega);have TD:IntKind.i64.wrap (f.bill.parts-1)=f.bill.parts-1:=aN (by omega);have hs:f.signs.getD i default=f.signs[i]:=by simp[h]
 generalize hX:Ds r f i=X;unfold Ds at hX;simp only[hs] at hX;simp[Yj,h,iV,cQ,TD];refine⟨_,fb _ _ _,?_⟩;cases a1:wi f.signs[i].part 0 (f.bill.parts-1)
 ·simpa [a1] using hX
 simp[a1] at hX ⊢;refine⟨_,fb _ _ _,?_⟩;rw[oe] at hX;cases a2:wi f.signs[i].who 0 ((r.firms.length:Int)-1)
 ·simpa [a2] using hX
 simp[a2] at hX ⊢;refine⟨_,fb _ _ _,?_⟩;rw[oe] at hX;cases a3:wi f.signs[i].city 0 ((r.cities.length:Int)-1)
 ·simpa [a3] using hX
 simp[a3] at hX ⊢;refine⟨by omega,?_⟩;have yH:min i f.signs.length=i:=by omega
 refine aK.forRounds i (fun k=>[.int (um f k),.bool ((f.signs.take k).any fun x=>(decide (f.signs[i].kind=1)&&decide (x.kind=1))&&decide (x.part=f.signs[i].part)),.int k]) (fun _=>[]) ?_ (fun k hk=>?_) ?_
 ·simp[um]
 ·have hw:=bu hk (by omega);have bp:k<f.signs.length:=by omega
  have hf:um f (k+1)=f.signs[k].day:=by simp[um,bp]
  rw[il bp,List.any_append];generalize ((f.signs.take k).any fun x=>(decide (f.signs[i].kind=1)&&decide (x.kind=1))&&decide (x.part=f.signs[i].part))=A;simp[ajh,N5,hk,bp,h,hw,hf,yH];cases A
  ·by_cases e1:f.signs[i].kind=1<;>by_cases e2:f.signs[k].kind=1<;>simp[e1,e2]
  ·simp
 ·have ht:ID f i f.signs[i]=true↔∃x,x∈List.take i f.signs∧(f.signs[i].kind=1∧x.kind=1)∧x.part=f.signs[i].part:=by simp[ID]
  simp[ajh,N5,yH,h];refine⟨_,fb _ _ _,?_⟩;by_cases a4:wi f.signs[i].day (um f i) 100000=false∨(i=0∧¬f.signs[i].day=um f i)
  ·rw[if_pos a4] at hX;rw[if_pos (by simpa using a4)];exact hX
  rw[if_neg a4] at hX;rw[if_neg (by simpa using a4)];refine⟨_,awx r hr f i h hl,?_⟩;cases a5:yi r f i
  ·simpa [a5] using hX
  simp[a5] at hX;simp only[anh,if_true];rw[←hX];by_cases a6:ID f i f.signs[i]=true
  ·rw[if_pos a6,if_pos (ht.1 a6)]
  ·rw[if_neg a6,if_neg (fun x=>a6 (ht.2 x))]
def Ja (a:Act)(to at_ own:Bool):Bool:=
 if a.kind=0∨a.kind=1∨a.kind=2 then(to&&decide (a.at_=-1))&&decide (a.sum=0)
 else if a.kind=3∨a.kind=4∨a.kind=5 then((to&&decide (a.at_=-1))&&wi a.sum 0 1099511627776)&&wi a.form 0 1
 else if a.kind=6 then(to&&own)&&wi a.sum 1 1099511627776
 else if a.kind=9 then(decide (a.to=-1)&&own)&&decide (a.sum=0)
 else(decide (a.to=-1)&&at_)&&decide (a.sum=0)
def D7 (f:File)(a:Act):Bool:=aE a.at_ f.signs.length&&Du f a.at_ a.part
def Vl (f:File)(a:Act):Bool:=D7 f a&&decide ((fc f a.at_).who=a.who)
def vi (r:Realm)(f:File)(a:Act):Bool:=
 if aE a.who r.firms.length=false∨(¬a.kind=4∧¬a.form=0) then false else Ja a (aE a.to r.firms.length) (D7 f a) (Vl f a)
theorem awt (r:Realm)(hr:Small r)(f:File)(a:Act)(hl:f.signs.length≤100000):aj T 99 [aT r,cg f,j1 a] (.bool (vi r f a)):=by
 refine .of_tree rfl (lA 149 (by kernel_rfl)) azR ?_;have pf:=hr.firms;have iV:IntKind.i64.wrap ((r.firms.length:Int)-1)=(r.firms.length:Int)-1:=aN (by omega);have cQ:IntKind.i64.wrap ((f.signs.length:Int)-1)=(f.signs.length:Int)-1:=aN (by omega);generalize hX:vi r f a=X;unfold vi Vl D7 at hX;simp[Yd,iV,cQ];refine⟨_,fb _ _ _,?_⟩;rw[←oe];have yU:=fb a.to 0 ((r.firms.length:Int)-1);have Gb:=fb a.who 0 ((r.firms.length:Int)-1);rw[←oe] at yU Gb;generalize aE a.to r.firms.length=tt at*;generalize aE a.who r.firms.length=ww at*;have fin:∀at_ own:Bool,(if ww=false∨(¬a.kind=4∧¬a.form=0) then false else Ja a tt at_ own)=X→
  if ww=false∨(¬a.kind=4∧¬a.form=0) then X=false
  else if a.kind=0∨a.kind=1∨a.kind=2 then(if tt=true∧a.at_=-1 then D.bool (decide (a.sum=0)) else D.bool false)=D.bool X
  else if a.kind=3∨a.kind=5∨a.kind=4 then
        if tt=true∧a.at_=-1 then
         ∃d,aj (eL tab ext) 59 [D.int a.sum,D.int 0,D.int 1099511627776] d∧
          if(tt=true∧a.at_=-1)∧d.b=true then
             ∃EI,aj (eL tab ext) 59 [D.int a.form,D.int 0,D.int 1] EI∧(if(tt=true∧a.at_=-1)∧d.b=true then EI else D.bool false)=D.bool X
          else(if(tt=true∧a.at_=-1)∧d.b=true then D.none else D.bool false)=D.bool X
        else D.bool false=D.bool X
  else if a.kind=6 then
        if tt=true∧own=true then ∃EI,aj (eL tab ext) 59 [D.int a.sum,D.int 1,D.int 1099511627776] EI∧(if tt=true∧own=true then EI else D.bool false)=D.bool X
        else(if tt=true∧own=true then D.none else D.bool false)=D.bool X
  else if a.kind=9 then(if a.to=-1∧own=true then D.bool (decide (a.sum=0)) else D.bool false)=D.bool X
  else(if a.to=-1∧at_=true then D.bool (decide (a.sum=0)) else D.bool false)=D.bool X:=by
  intro at_ own hX;by_cases p:ww=false∨(¬a.kind=4∧¬a.form=0)
  ·rw[if_pos p] at hX ⊢;exact hX.symm
  rw[if_neg p] at hX ⊢;unfold Ja at hX;by_cases k0:a.kind=0∨a.kind=1∨a.kind=2
  ·rw[if_pos k0] at hX ⊢;rw[←hX];by_cases e:tt=true∧a.at_=-1
   ·simp[e]
   ·rw[if_neg e];cases tt<;>simp at e ⊢;simp[e]
  rw[if_neg k0] at hX ⊢;by_cases k3:a.kind=3∨a.kind=4∨a.kind=5
  ·rw[if_pos k3] at hX;rw[if_pos (by omega),←hX];by_cases e:tt=true∧a.at_=-1
   ·rw[if_pos e];refine⟨_,fb _ _ _,?_⟩;cases wi a.sum 0 1099511627776
    ·simp
    ·simp[e];exact fb _ _ _
   ·rw[if_neg e];cases tt<;>simp at e ⊢;simp[e]
  rw[if_neg k3] at hX;rw[if_neg (by omega)];by_cases k6:a.kind=6
  ·rw[if_pos k6] at hX ⊢;rw[←hX];by_cases e:tt=true∧own=true
   ·rw[if_pos e];refine⟨_,fb _ _ _,?_⟩;simp[e]
   ·rw[if_neg e,if_neg e];cases tt<;>cases own<;>simp at e ⊢
  rw[if_neg k6] at hX ⊢;by_cases k9:a.kind=9
  ·rw[if_pos k9] at hX ⊢;rw[←hX];cases own<;>by_cases e:a.to=-1<;>simp[e]
  rw[if_neg k9] at hX ⊢;rw[←hX];cases at_<;>by_cases e:a.to=-1<;>simp[e]
 cases h1:aE a.at_ f.signs.length
 ·have hf:=fin false false (by simpa [h1] using hX);simp at hf ⊢;refine⟨_,yU,_,Gb,?_⟩;simpa using hf
 have cJ:0≤a.at_∧a.at_<f.signs.length:=by simpa [aE] using h1
 have h2:a.at_.toNat<f.signs.length:=by omega
 have hs:fc f a.at_=f.signs[a.at_.toNat]:=by simp[fc,h2]
 simp[cJ];refine⟨_,ah8 f _ _ (.inr cJ),_,yU,_,Gb,?_⟩;rw[h1,hs] at hX;have hf:=fin _ _ hX;cases h3:Du f a.at_ a.part
 ·rw[h3] at hf;simpa using hf
 ·rw[h3] at hf;simpa [h2] using hf
theorem MD (a b:Int):(if a<b then b else a)=max a b:=by split<;>omega
theorem Ud (a b:Int):(if a<b then D.int b else D.int a)=D.int (max a b):=by
 rw[←MD];split<;>rfl
def TX (f:File)(i:Nat)(a:Act):Int:=
 let x:=if a.at_=-1 then f.bill.day else max f.bill.day (fc f a.at_).day
 if i=0 then x else max x (f.acts.getD (i-1) default).day
def vj (r:Realm)(f:File)(i:Nat):Int:=
 let a:=f.acts.getD i default
 if wi a.part 0 (f.bill.parts-1)=false then 15
 else if aE a.city r.cities.length=false∨wi a.kind 0 9=false then 1
 else if vi r f a=false then 14
 else if wi a.day (TX f i a) 100000=false then 13 else 0
theorem abl {r:Realm}{f:File}{a:Act}(h:vi r f a=true)(hn:¬a.at_=-1):0≤a.at_∧a.at_<f.signs.length:=by
 unfold vi at h;split at h
 ·cases h
 have key:D7 f a=true→0≤a.at_∧a.at_<f.signs.length:=fun e=>by
  unfold D7 at e;simp only[aw] at e;simpa [aE] using e.1
 unfold Ja Vl at h
 repeat' split at h
 all_goals simp only[aw,decide_eq_true_eq] at h
 ·exact absurd h.1.2 hn
 ·exact absurd h.1.1.2 hn
 ·exact key h.1.2.1
 ·exact key h.1.2.1
 ·exact key h.1.2
theorem awu (r:Realm)(hr:Small r)(f:File)(hp:1≤f.bill.parts∧f.bill.parts≤4)(hl:f.signs.length≤100000)(yE:f.acts.length≤100000):aj T 60 [aT r,cg f] (.int (fM f.acts.length (vj r f))):=by
 refine .of_tree rfl (lA 148 (by kernel_rfl)) azS ?_;have Se:=hr.cities;have cQ:IntKind.i64.wrap ((r.cities.length:Int)-1)=(r.cities.length:Int)-1:=aN (by omega);have TD:IntKind.i64.wrap (f.bill.parts-1)=f.bill.parts-1:=aN (by omega);simp[Ye];refine p6 f.acts.length (vj r f) (fun k=>[.int 0,.int k]) (fun _=>[]) ?_ (fun k hk ho=>?_) (fun k hk ho hb=>?_) (fun hj=>?_)
 ·simp
 case' refine_2=>have hb:vj r f k=vj r f k:=rfl
 case' refine_3=>rw[hb]
 case refine_4=>simp[ajf,N3,hj]
 all_goals
  have hw:=bu hk (by omega);have hs:f.acts.getD k default=f.acts[k]:=by simp[hk]
  clear hb;generalize hX:vj r f k=X at*;unfold vj at hX;simp only[hs] at hX;simp[ajf,N3,hk,cQ,TD,hw];refine⟨_,fb _ _ _,?_⟩;cases a1:wi f.acts[k].part 0 (f.bill.parts-1)
  ·simp[a1] at hX ⊢
   first|exact hX|(exfalso;omega)
  simp[a1] at hX ⊢;refine⟨_,fb _ _ _,?_⟩;rw[oe] at hX;cases a2:wi f.acts[k].city 0 ((r.cities.length:Int)-1)
  ·simp[a2] at hX ⊢
   first|exact hX|(exfalso;omega)
  simp[a2] at hX ⊢;refine⟨_,fb _ _ _,?_⟩;cases a3:wi f.acts[k].kind 0 9
  ·simp[a3] at hX ⊢
   first|exact hX|(exfalso;omega)
  simp[a3] at hX ⊢;refine⟨_,awt r hr f f.acts[k] hl,?_⟩;cases a4:vi r f f.acts[k]
  ·simp[a4] at hX ⊢
   first|exact hX|(exfalso;omega)
  simp[a4] at hX ⊢;unfold TX at hX;by_cases k0:k=0
  ·subst k0;by_cases e1:f.acts[0].at_=-1
   ·simp[e1] at hX;simp[e1];refine⟨_,fb _ _ _,?_⟩;split at hX
    ·rename_i e;simp[e]
     first|exact hX|(exfalso;omega)
    ·rename_i e
     first|(exfalso;omega)|simp[e]
   ·obtain⟨h5,h6⟩:=abl a4 e1;have h7:f.acts[0].at_.toNat<f.signs.length:=by omega
    have h8:fc f f.acts[0].at_=f.signs[f.acts[0].at_.toNat]:=by simp[fc,h7]
    simp[e1,h8] at hX;simp[e1,h5,h6,h7,Ud,MD];refine⟨_,fb _ _ _,?_⟩;split at hX
    ·rename_i e;simp[e]
     first|exact hX|(exfalso;omega)
    ·rename_i e
     first|(exfalso;omega)|simp[e]
  ·have bD:IntKind.i64.wrap ((k:Int)-1)=(k:Int)-1:=aN (by omega);have cB:((k:Int)-1).toNat=k-1:=by omega
   have mF:k-1<f.acts.length:=by omega
   have Ce:0<k:=by omega
   by_cases e1:f.acts[k].at_=-1
   ·simp[k0,e1,mF] at hX;simp[e1,Ce,bD,cB,mF,Ud,MD];refine⟨by omega,_,fb _ _ _,?_⟩;split at hX
    ·rename_i e;simp[e]
     first|exact hX|(exfalso;omega)
    ·rename_i e
     first|(exfalso;omega)|simp[e]
   ·obtain⟨h5,h6⟩:=abl a4 e1;have h7:f.acts[k].at_.toNat<f.signs.length:=by omega
    have h8:fc f f.acts[k].at_=f.signs[f.acts[k].at_.toNat]:=by simp[fc,h7]
    simp[k0,e1,mF,h8] at hX;simp[e1,Ce,bD,cB,mF,h5,h6,h7,Ud,MD];refine⟨by omega,_,fb _ _ _,?_⟩;split at hX
    ·rename_i e;simp[e]
     first|exact hX|(exfalso;omega)
    ·rename_i e
     first|(exfalso;omega)|simp[e]
end Rm
namespace Rm
open Go Go.Proofs Cx
def qy (a b:Int):Int:=if a<b then-1 else if b<a then 1 else 0
theorem ae6 (a:Int):aj T 143 [.int a] (.bool false):=by
 refine .of_tree rfl (lA 152 (by kernel_rfl)) azx ?_;simp[XU]
theorem aaL (a b:Int):aj T 101 [.int a,.int b] (.int (qy a b)):=by
 refine .of_tree rfl (lA 151 (by kernel_rfl)) azv ?_;simp[XS];refine⟨_,ae6 a,_,ae6 b,?_⟩;unfold qy;by_cases h1:a<b
 ·simp[h1]
 by_cases h2:b<a<;>simp[h1,h2]
theorem alg (l:List Int)(hl:l.length≤100000):aj T 100 [ints l] (.int (fM l.length fun k=>l.getD k 0)):=by
 refine .of_tree rfl (lA 153 (by kernel_rfl)) azw ?_;simp[XT];refine p6 l.length (fun k=>l.getD k 0) (fun k=>[.int 0,.int k]) (fun _=>[]) ?_ (fun k hk ho=>?_) (fun k hk ho hb=>?_) (fun hj=>?_)
 ·simp
 ·have hw:=bu hk (by omega);have hx:l[k]=0:=by simpa [hk] using ho
  simp[V5,Hg,hk,hx,hw]
 ·have hx:¬l[k]=0:=by simpa [hk] using ho
  simp only[aI] at hb ⊢;rw[hb];simp[V5,Hg,hk,hx]
 ·simp only[aI] at hj ⊢;rw[hj];simp[V5,Hg]
theorem or2 (a b:Int):(fM 2 fun k=>[a,b].getD k 0)=if a=0 then b else a:=by
 have e:List.range 2=[0,1]:=rfl;unfold fM;rw[e];by_cases ha:a=0<;>by_cases hb:b=0<;>simp[ha,hb]
def Aw (x y:Fact):Prop:=x.at_<y.at_∨(x.at_=y.at_∧x.kind<y.kind)
instance (x y:Fact):Decidable (Aw x y):=by unfold Aw;infer_instance
theorem alA (x y:Fact):0≤(if qy x.at_ y.at_=0 then qy x.kind y.kind else qy x.at_ y.at_)↔¬Aw x y:=by
 unfold qy Aw
 repeat' split
 all_goals omega
def yh (f:File)(i:Nat):Int:=
 let x:=f.facts.getD i default
 if wi x.kind 0 4=false then 1 else if aE x.at_ f.signs.length=false then 1 else if wi x.n 0 1=false then 1
 else if i=0 then 0 else if Aw (f.facts.getD (i-1) default) x then 0 else 5
theorem aww (f:File)(hl:f.signs.length≤100000)(hlf:f.facts.length≤100000):aj T 61 [cg f] (.int (fM f.facts.length (yh f))):=by
 refine .of_tree rfl (lA 150 (by kernel_rfl)) azU ?_;have cQ:IntKind.i64.wrap ((f.signs.length:Int)-1)=(f.signs.length:Int)-1:=aN (by omega);simp[Yg];refine p6 f.facts.length (yh f) (fun k=>[.int 0,.int k]) (fun _=>[]) ?_ (fun k hk ho=>?_) (fun k hk ho hb=>?_) (fun hj=>?_)
 ·simp
 case' refine_2=>have hb:yh f k=yh f k:=rfl
 case' refine_3=>rw[hb]
 case refine_4=>simp[ajg,N4,hj]
 all_goals
  have hw:=bu hk (by omega);have hs:f.facts.getD k default=f.facts[k]:=by simp[hk]
  clear hb;generalize hX:yh f k=X at*;unfold yh at hX;simp only[hs] at hX;simp[ajg,N4,hk,cQ,hw];refine⟨_,fb _ _ _,?_⟩;cases a1:wi f.facts[k].kind 0 4
  ·simp[a1] at hX ⊢
   first|exact hX|(exfalso;omega)
  simp[a1] at hX ⊢;refine⟨_,fb _ _ _,?_⟩;rw[oe] at hX;cases a2:wi f.facts[k].at_ 0 ((f.signs.length:Int)-1)
  ·simp[a2] at hX ⊢
   first|exact hX|(exfalso;omega)
  simp[a2] at hX ⊢;refine⟨_,fb _ _ _,?_⟩;cases a3:wi f.facts[k].n 0 1
  ·simp[a3] at hX ⊢
   first|exact hX|(exfalso;omega)
  simp[a3] at hX ⊢;by_cases k0:k=0
  ·subst k0;simp at hX ⊢
   first|(exfalso;omega)|done
  ·have bD:IntKind.i64.wrap ((k:Int)-1)=(k:Int)-1:=aN (by omega);have cB:((k:Int)-1).toNat=k-1:=by omega
   have mF:k-1<f.facts.length:=by omega
   simp[k0,mF] at hX;simp[k0,bD,cB,mF];refine⟨by omega,_,aaL _ _,_,aaL _ _,?_⟩;have ho:=alg [qy f.facts[k-1].at_ f.facts[k].at_,qy f.facts[k-1].kind f.facts[k].kind] (by simp);simp only[oL,Ap] at ho;rw[or2] at ho;refine⟨_,ho,?_⟩;have ha:=alA f.facts[k-1] f.facts[k];generalize (if qy f.facts[k-1].at_ f.facts[k].at_=0 then qy f.facts[k-1].kind f.facts[k].kind else qy f.facts[k-1].at_ f.facts[k].at_)=n at*;clear ho;by_cases e:Aw f.facts[k-1] f.facts[k]
   ·have hn:¬0≤n:=fun h=>ha.1 h e;simp[e] at hX;simp[hn]
    first|done|(exfalso;omega)
   ·have hn:0≤n:=ha.2 e;simp[e] at hX;simp[hn]
    first|exact hX|(exfalso;omega)
def xQ (f:File)(i:Nat):Int:=
 let x:=f.alters.getD i default
 if wi x.at_ ((if i=0 then 0 else(f.alters.getD (i-1) default).at_)+1) f.signs.length=false then 1 else if wi x.sum 1 1099511627776=false then 3 else 0
structure PaperOK (r:Realm) (f:File):Prop where
 full:(f.signs.length≤40∧f.alters.length≤4)∧f.acts.length≤100∧f.facts.length≤200
 bill:BillOK r f.bill
 ne:f.signs≠[]
 signs:fM f.signs.length (Ds r f)=0
 alters:fM f.alters.length (xQ f)=0
 acts:fM f.acts.length (vj r f)=0
 facts:fM f.facts.length (yh f)=0
theorem awr (r:Realm)(hs:Small r)(f:File)(Fh:f.OK):∃d,aj T 25 [aT r,cg f] d∧qh (PaperOK r f) d:=by
 refine aj.ex_of_tree rfl alN azP ?_;simp[Yb];by_cases hf:(f.signs.length≤40∧f.alters.length≤4)∧f.acts.length≤100∧f.facts.length≤200
 case neg=>
  rw[if_pos (by omega)];exact .no (fun h=>hf h.full) (by decide)
 rw[if_neg (by omega)];obtain⟨d,hb,e,rfl,he⟩:=aB1 r hs f.bill;refine⟨_,hb,?_⟩;by_cases e0:e=0
 case neg=>
  simp[e0];exact .no (fun h=>e0 (he.2 h.bill)) e0
 have LA:=he.1 e0;simp[e0];by_cases ay:f.signs=[]
 ·simp[ay];exact .no (fun h=>h.ne ay) (by decide)
 simp[ay];refine p6 f.signs.length (Ds r f) (fun k=>[.int 0,.int k]) (fun _=>[]) ?_ (fun k hk ho=>?_) (fun k hk ho hb=>?_) (fun hj=>?_)
 ·simp
 ·have hw:=bu hk (by omega);simp[V8,Hi,hk,hw];refine⟨_,ah7 r hs f LA.parts k hk (by omega),?_⟩;simp[ho]
 ·simp[V8,Hi,hk];refine⟨_,ah7 r hs f LA.parts k hk (by omega),?_⟩;simp[ho];exact .no (fun h=>ho (by rw[←hb];exact h.signs)) ho
 simp[V8,Hi];have lj:∀k,k<f.alters.length→(∀j,j<k→xQ f j=0)→IntKind.i64.wrap ((if k=0 then 0 else(f.alters.getD (k-1) default).at_)+1)=(if k=0 then 0 else(f.alters.getD (k-1) default).at_)+1:=by
  intro k hk hj;refine aN ?_;by_cases k0:k=0
  ·rw[if_pos k0];omega
  ·rw[if_neg k0];have h1:=hj (k-1) (by omega);have bD:k-1<f.alters.length:=by omega
   have h2:=(Fh.2.2.1.2 _ (bW bD)).1;have h3:f.alters.getD (k-1) default=f.alters[k-1]:=by simp[bD]
   unfold xQ at h1;rw[h3] at h1 ⊢;simp only at h1;generalize (if k-1=0 then(0:Int) else(f.alters.getD (k-1-1) default).at_)=L0 at h1;split at h1
   ·cases h1
   ·rename_i hh;simp[wi] at hh;unfold aY at h2;omega
 refine aK.scan f.alters.length (fun k=>xQ f k=0) (fun k=>[.int 0,.int (if k=0 then 0 else(f.alters.getD (k-1) default).at_),.int k]) (fun _=>[]) ?_ (fun k hk sD ho=>?_) (fun k hk sD ho=>?_) (fun FF=>?_)
 ·simp
 ·have hw:=bu hk (by omega);have hl:=lj k hk sD;generalize hL:(if k=0 then 0 else(f.alters.getD (k-1) default).at_)=L at*;have hs:f.alters.getD k default=f.alters[k]:=by simp[hk]
  unfold xQ at ho;simp only[hs,hL] at ho;simp[V9,Hj,hk,hl];refine⟨_,fb _ _ _,?_⟩;cases a1:wi f.alters[k].at_ (L+1) f.signs.length
  ·simp[a1] at ho
  simp[a1] at ho ⊢;refine⟨_,fb _ _ _,?_⟩;simp[ho,hw]
 ·have hl:=lj k hk sD;have Sm:=RE hk sD ho;generalize hL:(if k=0 then 0 else(f.alters.getD (k-1) default).at_)=L at*;have hs:f.alters.getD k default=f.alters[k]:=by simp[hk]
  have bad:∀e:Int,e≠0→qh (PaperOK r f) (.int e):=fun e h=>.no (fun h=>ho (by rw[←Sm];exact h.alters)) h;unfold xQ at ho;simp only[hs,hL] at ho;simp[V9,Hj,hk,hl];refine⟨_,fb _ _ _,?_⟩;cases a1:wi f.alters[k].at_ (L+1) f.signs.length
  ·simp;exact bad 1 (by decide)
  simp[a1] at ho ⊢;refine⟨_,fb _ _ _,?_⟩;simp[ho];exact bad 3 (by decide)
 have FF:=RG FF;simp[V9,Hj];refine⟨_,awu r hs f LA.parts (by omega) (by omega),?_⟩;by_cases e3:fM f.acts.length (vj r f)=0
 case neg=>
  simp[e3];exact .no (fun h=>e3 h.acts) e3
 simp[e3];refine⟨_,aww f (by omega) (by omega),?_⟩;exact⟨_,rfl,fun h=>⟨hf,LA,ay,hj,FF,e3,h⟩,fun h=>h.facts⟩
end Rm
namespace Rm
open Go Go.Proofs Cx
structure SignOK (r:Realm) (f:File) (i:Nat) (s:Sign):Prop where
 part:0≤s.part∧s.part≤f.bill.parts-1
 who:0≤s.who∧s.who<r.firms.length
 city:0≤s.city∧s.city<r.cities.length
 day:um f i≤s.day∧s.day≤100000
 fits:yi r f i=true
 once:ID f i s=false
theorem PaperOK.sign {r:Realm}{f:File}(h:PaperOK r f)(i:Nat)(hi:i<f.signs.length):SignOK r f i f.signs[i]:=by
 have h1:=RD h.signs i hi;have hs:f.signs.getD i default=f.signs[i]:=by simp[hi]
 unfold Ds at h1;simp only[hs] at h1;split at h1
 ·cases h1
 rename_i a1;split at h1
 ·cases h1
 rename_i a2;split at h1
 ·cases h1
 rename_i a3;split at h1
 ·cases h1
 rename_i a4;split at h1
 ·cases h1
 rename_i a5;simp[wi,aE] at a1 a2 a3;exact⟨⟨by omega,by omega⟩,⟨by omega,by omega⟩,⟨by omega,by omega⟩,⟨by omega,by omega⟩,by simpa using a4,by simpa using a5⟩
structure IL (r:Realm) (f:File) (i:Nat) (a:Act):Prop where
 part:0≤a.part∧a.part≤f.bill.parts-1
 city:0≤a.city∧a.city<r.cities.length
 kind:0≤a.kind∧a.kind≤9
 fits:vi r f a=true
 day:TX f i a≤a.day∧a.day≤100000
theorem ayq {r:Realm}{f:File}{i:Nat}(hi:i<f.signs.length)(h:yi r f i=true)(hk:f.signs[i].kind=1∨f.signs[i].kind=4):1≤f.signs[i].sum∧f.signs[i].sum≤1099511627776:=by
 have hs:f.signs.getD i default=f.signs[i]:=by simp[hi]
 unfold yi at h;rw[hs] at h;unfold Ld at h;split at h
 ·cases h
 split at h
 ·cases h
 unfold RI at h;rcases hk with hk|hk
 ·simp[hk,wi] at h;omega
 ·simp[hk,wi] at h;omega
theorem PaperOK.sums {r:Realm}{f:File}(h:PaperOK r f):SumsOK f:=by
 have hr:=h.bill.range;unfold Df at hr;refine⟨by omega,by omega,fun a ha=>?_,fun s hs hk=>?_⟩
 ·obtain⟨i,hi,rfl⟩:=fX ha;have h1:=RD h.alters i hi;have hs:f.alters.getD i default=f.alters[i]:=by simp[hi]
  unfold xQ at h1;simp only[hs] at h1;generalize (if i=0 then(0:Int) else(f.alters.getD (i-1) default).at_)=L at h1;split at h1
  ·cases h1
  split at h1
  ·cases h1
  rename_i a1;simp[wi] at a1;omega
 ·obtain⟨i,hi,rfl⟩:=fX hs;exact ayq hi (h.sign i hi).fits hk
end Rm
namespace Rm
open Go Go.Proofs Cx
end Rm
namespace Rm
open Go Go.Proofs Cx
end Rm
namespace Rm
open Go Go.Proofs Cx
end Rm
namespace Rm
open Go Go.Proofs Cx
end Rm
namespace Rm
open Go Go.Proofs Cx
end Rm
namespace Rm
open Go Go.Proofs Cx
end Rm
namespace Rm
open Go Go.Proofs Cx
instance (a b:Int):Decidable (aj1 a b):=by unfold aj1;infer_instance
end Rm
namespace Rm
open Go Go.Proofs Cx
end Rm
namespace Rm
open Go Go.Proofs Cx
theorem ap7 {r:Realm}(h:jf r=0):IP r∧xq r:=by
 unfold jf at h;rw[OE] at h;refine⟨fun x hx=>?_,fun g hg=>?_⟩
 ·obtain⟨k,hk,rfl⟩:=fX hx;have h1:=h (eM (eY r) 200 (nQ r)) (by simp);unfold eM at h1;split at h1
  ·cases h1
  have h2:=RF.1 h1 k (by simpa [eY] using hk);have h3:=(BO h2).2;simp[nQ,aE,hk] at h3;omega
 ·obtain⟨k,hk,rfl⟩:=fX hg;have h1:=h (sr r) (by simp);unfold sr at h1;split at h1
  ·cases h1
  split at h1
  ·rename_i h2;have h3:=(xP.1 h2) k hk;simp[vx,aE,hk] at h3;omega
  ·cases h1
theorem awB {r:Realm}{f:File}(G:Good r f)(hc:jf r=0)(hP:PaperOK r f)(forum day:Int):PayOK r (eX r forum f day):=by
 have du:=Ru r forum f day;have uz:=G.few.signs;obtain⟨Sl,pg⟩:=ap7 hc;have hS:=hP.sums.at_ day;have each:∀e,e∈sf r forum f day→(0≤e.firm∧e.firm<r.firms.length)∧0≤e.sum∧e.sum≤1099511627776:=by
  intro e he;unfold sf at he;obtain⟨k,hk,rfl⟩:=cu.1 he;have bp:k<(cH f day).signs.length:=fY.1 hk;have h1:=aoi (v:=uN r forum f day) hS k (by omega) (by show(k:Int)<((cH f day).signs.length:Int);omega);refine⟨?_,by omega,h1.2⟩;have hm:(cH f day).signs[k]∈f.signs:=(aa5 _).subset (bW bp);obtain⟨i,hi,e⟩:=fX hm;have h2:=(hP.sign i hi).who;have h3:(qG (uN r forum f day) k).firm=((cH f day).signs[k]).who:=by
   show((cH f day).signs.getD (k:Int).toNat default).who=_;simp[bp]
  rw[h3,←e];exact h2
 refine⟨fun e he=>(each e (eu.1 he).1).1,fun e he=>(each e (eu.1 he).1).2,Sl,pg,?_⟩;exact dO (oM _ _) (by omega)
def apZ (r:Realm)(f:File)(q:Quote):Prop:=q.fails.length≤20∧Fe r f=true∧PaperOK r f
theorem al6 (r:Realm)(hr:r.OK)(f:File)(Fh:f.OK)(q:Quote):∃d,aj T 6 [aT r,cg f,kY q] d∧∃b:Bool,d=.bool b∧(b=true→apZ r f q):=by
 refine aj.ex_of_tree rfl alM azE ?_;simp[X0];by_cases hl:q.fails.length≤20
 case neg=>
  have sE:¬((q.fails.length:Int)≤20):=by omega
  simp[hl,sE]
  try exact⟨⟨_,ai1 r f hr⟩,by simp⟩
 have sE:(q.fails.length:Int)≤20:=by omega
 simp[sE];refine⟨_,ai1 r f hr,?_⟩;cases e1:uk r f
 ·simp
 have hs:Small r:=Rz hr (by simp only[uk,aw] at e1;exact e1.1.1);simp;refine⟨_,aw0 r hs,?_⟩;by_cases e2:jf r=0
 case neg=>simp[e2]
 obtain⟨d,hd,e,rfl,he⟩:=awr r hs f Fh;simp[e2];refine⟨_,hd,?_⟩;simp;by_cases e0:e=0
 ·exact .inr ⟨e0,hl,by simp[Fe,e1,e2],he.1 e0⟩
 ·exact .inl e0
end Rm
namespace Rm
open Go Go.Proofs Cx
def xn:Order:=⟨⟨#[103,101,110,101,118,97]⟩,false,[],[⟨0,.mk 1 1 []⟩,⟨1,.mk 1 1 []⟩,⟨2,.mk 2 15 []⟩]⟩
def bz:Realm:=⟨[⟨#[102,114,97,110,99]⟩],[⟨⟨#[76,121,111,110]⟩,0,0,[],[],[]⟩],[⟨3⟩,⟨5⟩],[⟨⟨#[97]⟩,0,1⟩,⟨⟨#[98]⟩,0,0⟩],[xn],[],[],[]⟩
def zZ:Bill:=⟨0,1,0,1000,0,⟨3,40,0⟩,2,0,0,-1,0,1,1⟩
def cq (s d:Int):File:=⟨zZ,[⟨0,0,0,-1,-1,0,2,0,0⟩,⟨1,0,1,-1,-1,s,3,0,0⟩],[],[],[⟨0,0,d⟩,⟨0,1,1⟩]⟩
def ie:Quote:=⟨100,[⟨1,1⟩,⟨1,1⟩,⟨1,1⟩,⟨1,10⟩,⟨1,1⟩,⟨1,2⟩,⟨1,1⟩,⟨1,1⟩,⟨1,1⟩,⟨1,1⟩]⟩
theorem aB8:aj T 17 [] (aT bz):=by
 refine .of_tree rfl (lA 2 (by kernel_rfl)) azF ?_;simp[X1,aT,bz,xn,strs,oT,groups,firms,orders,rules,choices,usances,rates,halts]
 try rfl
theorem DH:aj T 19 [] (kY ie):=by
 refine .of_tree rfl (lA 3 (by kernel_rfl)) azG ?_;simp[X2];refine aK.forRounds 10 (fun k=>[.int k]) (fun k=>[.list ((List.range 10).map fun i=>if i<k then gN ⟨1,1⟩ else gN ⟨0,0⟩)]) ?_ (fun k hk=>?_) ?_
 ·simp
  try rfl
 ·have hw:=bu hk (by omega);have bp:(k:Int)<10:=by omega
  rcases k with _|_|_|_|_|_|_|_|_|_|k
  all_goals first|omega|skip
  all_goals
   simp[ajd,N1]
   first|rfl|exact⟨aN (by omega),rfl⟩
 ·simp[ajd,N1]
  try rfl
theorem DG (s d:Int):aj T 20 [.int s,.int d] (cg (cq s d)):=by
 refine .of_tree rfl (lA 11 (by kernel_rfl)) azD ?_;simp[XZ]
 try rfl
theorem aCi:Small bz:=by
 refine⟨by decide,by decide,by decide,by decide,by decide,by decide,by decide,by decide,?_,?_,?_⟩
 ·intro c hc;simp[bz] at hc;rcases hc with rfl;simp
 ·intro o ho;simp[bz] at ho;rcases ho with rfl;simp[xn]
 ·intro x hx;simp[bz] at hx
theorem IG:RightD bz:=⟨aCi,by decide,fun h hh=>by simp[bz] at hh⟩
theorem aax:Right bz:=by
 have n:∀a k:Int,0≤a→a≤100→0≤k→k≤100→(Tm.mk a k []).OK:=fun a k h1 h2 h3 h4=>.mk _ _ [] (Mg (by omega)) (Mg (by omega)) (by decide) (fun _ h=>by cases h);refine⟨?_,by decide,?_⟩
 ·intro o ho;obtain rfl:o=xn:=by simpa [bz] using ho
  exact⟨by decide,fun ch h=>by simp[xn] at h⟩
 ·intro o ho;obtain rfl:o=xn:=by simpa [bz] using ho
  refine⟨⟨⟨by decide,fun ch h=>by simp[xn] at h⟩,by decide,?_⟩,by decide⟩;intro x hx;simp[xn] at hx;rcases hx with rfl|rfl|rfl
  all_goals exact⟨Mg (by decide),n _ _ (by decide) (by decide) (by decide) (by decide)⟩
theorem aar (s d:Int):FewS (cq s d):=⟨by simp[cq],by simp[cq],by simp[cq],by simp[cq]⟩
theorem aCc (s d:Int)(h1:(cH (cH (cq s d) 4) 4).signs≠[])(h2:tp (cH (cH (cq s d) 4) 4)=-1)(h3:max (rh (nv bz 0 6 (cH (cH (cq s d) 4) 4) 4)) 0=0):lz bz 0 (cH (cq s d) 4) 4=40:=by
 have h5:rH bz 0 40=(40,0):=by kernel_rfl
 have h4:sd bz zZ (-1) 0=rH bz 0 (40+0):=aci (b:=zZ) IG (by kernel_rfl) (by decide) (by decide) (by decide) rfl rfl (by decide) (by omega) (by show(40:Int)+0≤100000;omega);unfold lz;rw[if_neg h1,h2,h3,show(cH (cq s d) 4).bill=zZ from rfl,h4,show(40:Int)+0=40 from rfl,h5];simp
theorem aaq (s d:Int)(l:List Effect)(h1:(cH (cH (cq s d) 4) 4).signs≠[])(h2:tp (cH (cH (cq s d) 4) 4)=-1)(h3:max (rh (nv bz 0 6 (cH (cH (cq s d) 4) 4) 4)) 0=0)
 (h:((List.range (cH (cq s d) 4).signs.length).map fun(k:Nat)=>qG ⟨bz,0,4,cH (cq s d) 4,IC (nv bz 0 0 (cH (cq s d) 4) 4),40⟩ k).filter jK=l):eX bz 0 (cq s d) 4=l:=by
 unfold eX sf uN;rw[aCc s d h1 h2 h3];exact h
theorem aas:eX bz 0 (cq 1000 0) 4=[⟨1,1,1,1,0,1000,false⟩]:=aaq 1000 0 _ (by decide) (by kernel_rfl) (by kernel_rfl) (by kernel_rfl)
theorem akA:eX bz 0 (cq 1000 1) 4=[⟨0,0,0,1,0,1000,true⟩,⟨1,1,1,1,0,1000,false⟩]:=aaq 1000 1 _ (by decide) (by kernel_rfl) (by kernel_rfl) (by kernel_rfl)
theorem Pm:eX bz 0 (cq 600 1) 4=[⟨0,0,0,1,0,1000,true⟩,⟨1,1,1,1,0,600,false⟩]:=aaq 600 1 _ (by decide) (by kernel_rfl) (by kernel_rfl) (by kernel_rfl)
theorem aaw:kP ie=0:=by decide
theorem akF:jY ie.fails:=(G2 aaw).2.2
theorem aCb:IP bz:=by
 intro f hf;simp[bz] at hf;rcases hf with rfl|rfl<;>decide
theorem akz:xq bz:=by
 intro g hg;simp[bz] at hg;rcases hg with rfl|rfl<;>decide
theorem aau {l:List Effect}(h1:∀e,e∈l→(0≤e.firm∧e.firm<2)∧0≤e.sum∧e.sum≤1000)(h2:l.length≤2):PayOK bz l:=
 ⟨fun e he=>(h1 e he).1,fun e he=>by have:=(h1 e he).2;omega,aCb,akz,by omega⟩
theorem aay {l l':List Effect}{n:Int}(hp:∀e,e∈l'↔e∈l)(hs:l'.Pairwise fun a b=>a.sum≤b.sum)(h0:∀e,e∈l→0≤e.sum∧e.sum≤1000)(h:(iv (dx bz l ie.fails) (l'.map (·.sum))).1=n):jU bz l ie.fails=n:=by
 rw[←aku (r:=bz) akF hp hs (fun e he=>by have:=h0 e he;omega),h]
theorem akG:jU bz [⟨1,1,1,1,0,1000,false⟩] ie.fails=900:=aay (l':=[⟨1,1,1,1,0,1000,false⟩]) (fun e=>Iff.rfl) (by simp) (by simp) (by kernel_rfl)
theorem aCj:jU bz [⟨0,0,0,1,0,1000,true⟩,⟨1,1,1,1,0,1000,false⟩] ie.fails=950:=aay (l':=[⟨0,0,0,1,0,1000,true⟩,⟨1,1,1,1,0,1000,false⟩]) (fun e=>Iff.rfl) (by simp) (by simp) (by kernel_rfl)
theorem akH:jU bz [⟨0,0,0,1,0,1000,true⟩,⟨1,1,1,1,0,600,false⟩] ie.fails=770:=aay (l':=[⟨1,1,1,1,0,600,false⟩,⟨0,0,0,1,0,1000,true⟩]) (fun e=>by simp[or_comm]) (by simp) (by simp) (by kernel_rfl)
theorem II (s d:Int){l:List Effect}{n:Int}(hl:eX bz 0 (cq s d) 4=l)(hw:jU bz l ie.fails=n):lM bz 0 (cq s d) 4 ie=(n,0):=by
 unfold lM;rw[if_neg (by rw[aaw];simp;decide),hl,hw]
theorem aat (s d:Int)(h1:(cH (cq s d) 4).signs≠[])(h2:tp (cH (cq s d) 4)=-1)(h3:max (rh (nv bz 0 6 (cH (cq s d) 4) 4)) 0=0):lz bz 0 (cq s d) 4=40:=by
 have h5:rH bz 0 40=(40,0):=by kernel_rfl
 have h4:sd bz zZ (-1) 0=rH bz 0 (40+0):=aci (b:=zZ) IG (by kernel_rfl) (by decide) (by decide) (by decide) rfl rfl (by decide) (by omega) (by show(40:Int)+0≤100000;omega);unfold lz;rw[if_neg h1,h2,h3,show(cq s d).bill=zZ from rfl,h4,show(40:Int)+0=40 from rfl,h5];simp
theorem akB:lz bz 0 (cq 1000 0) 4=40:=aat 1000 0 (by decide) (by kernel_rfl) (by kernel_rfl)
theorem akC:lz bz 0 (cq 1000 1) 4=40:=aat 1000 1 (by decide) (by kernel_rfl) (by kernel_rfl)
theorem akD:lz bz 0 (cq 600 1) 4=40:=aat 600 1 (by decide) (by kernel_rfl) (by kernel_rfl)
theorem aCa:aj T 18 [aT bz,ints [0,1],kY ie] (.tup [.int 50000000,.int 0]):=by
 have hc:=abV bz [0,1] ie (by intro g hg;simp at hg;rcases hg with rfl|rfl<;>decide) akz akF (by decide);rw[show kX bz [0,1] ie.fails=50000000 by kernel_rfl] at hc;have hk:=Ps ie (by decide);rw[aaw] at hk;refine .of_tree rfl (lA 4 (by kernel_rfl)) azZ ?_;simp[Yk];refine⟨_,hk,?_⟩;refine aK.forRounds 2 (fun k=>[.bool false,.int k]) (fun _=>[]) ?_ (fun k hk=>?_) ?_
 ·simp
 ·rcases k with _|_|k
  ·simp[Wa,Hk,ints];decide
  ·simp[Wa,Hk,ints];decide
  ·omega
 ·simp[Wa,Hk,ints];exact hc
theorem aaT (r:Realm)(hr:Right r)(hd:RightD r)(forum:Int)(f:File)(day s:Int)(hf:FewS f)(ho:0≤forum∧forum<r.orders.length)(hp:PayOK r (eX r forum f day)):aj T 12 [aT r,.int forum,cg f,.int day,.int s] (ints (eQ r (eX r forum f day) s)):=by
 refine .of_tree rfl abz akf ?_;simp[Pc];refine⟨_,Mm r forum,?_⟩;simp[ho];refine⟨_,afq r hr hd forum f day hf,?_⟩;exact acX r _ s hp.firms hp.len
theorem aCe:rl bz 0 (cq 1000 0) 4 ie=(891,0):=by
 unfold rl;rw[II 1000 0 aas akG,akB];decide
theorem aCf:rl bz 0 (cq 1000 1) 4 ie=(940,0):=by
 unfold rl;rw[II 1000 1 akA aCj,akC];decide
theorem aCg:rl bz 0 (cq 600 1) 4 ie=(762,0):=by
 unfold rl;rw[II 600 1 Pm akH,akD];decide
theorem akE:PayOK bz (eX bz 0 (cq 1000 0) 4):=by rw[aas];exact aau (by simp) (by simp)
theorem aCh:PayOK bz (eX bz 0 (cq 1000 1) 4):=by rw[akA];exact aau (by simp) (by simp)
theorem aav:PayOK bz (eX bz 0 (cq 600 1) 4):=by rw[Pm];exact aau (by simp) (by simp)
theorem aky {s d n:Int}(hp:PayOK bz (eX bz 0 (cq s d) 4))(h:lM bz 0 (cq s d) 4 ie=(n,0)):aj T 9 [aT bz,.int 0,cg (cq s d),.int 4,kY ie] (.tup [.int n,.int 0]):=by
 have:=P2 bz aax IG 0 (cq s d) 4 (aar s d) ie (by decide) hp
 rwa [h] at this
theorem aap {s d n:Int}(hp:PayOK bz (eX bz 0 (cq s d) 4))(h:rl bz 0 (cq s d) 4 ie=(n,0))(hm:lz bz 0 (cq s d) 4=40):aj T 8 [aT bz,.int 0,cg (cq s d),.int 4,kY ie] (.tup [.int n,.int 0]):=by
 have:=ali bz aax IG 0 (cq s d) 4 (aar s d) ie (by decide) hp (Mg (by decide)) (.inr ⟨by omega,by omega,by omega⟩)
 rwa [h] at this
theorem aCd:aj T 21 [kY ⟨0,[]⟩] (.int 1):=by
 have:=Ps ⟨0,[]⟩ (by decide)
 rwa [show kP ⟨0,[]⟩=1 by decide] at this
theorem aB9:aj T 12 [aT bz,.int 0,cg (cq 600 1),.int 4,.int 601] (ints [1]):=by
 have:=aaT bz aax IG 0 (cq 600 1) 4 601 (aar 600 1) (by decide) aav
 rwa [Pm,show eQ bz [⟨0,0,0,1,0,1000,true⟩,⟨1,1,1,1,0,600,false⟩] 601=[1] by decide] at this
theorem ayd:aj T 5 [] (.bool true):=by
 refine .of_tree rfl (lA 1 (by kernel_rfl)) azH ?_;simp[X3];refine⟨_,aB8,_,DH,_,aCa,_,DG 1000 0,_,DH,_,aky akE (II 1000 0 aas akG),_,DG 1000 0,_,DH,_,aap akE aCe akB,_,DG 1000 1,_,DH,_,aap aCh aCf akC,_,DG 600 1,_,DH,_,aky aav (II 600 1 Pm akH),_,DG 600 1,_,DH,_,aap aav aCg akD,_,aCd,?_⟩;simp;exact⟨_,DG 600 1,_,aB9,axg [1] (by decide)⟩
end Rm
namespace Rm
open Go Cx
def kL (f:Nat→Int)(cS:Nat→Nat):Nat→Int
 |0=>1
 |g+1=>kL f cS g*f g^cS g
def p7 (cS:Nat→Nat):Nat→Nat
 |0=>0
 |g+1=>p7 cS g+cS g
theorem ayB {p:Ratio}(hp:p.right){n A B c:Int}(hB:0≤B)(hc:0≤c)(h1:1000000000*A≤n*B)(h2:n*B≤1000000000*A+c*B):
 1000000000*(A*p.num)≤ia n p*(B*p.den)∧ia n p*(B*p.den)≤1000000000*(A*p.num)+(c+1)*(B*p.den):=by
 obtain⟨d1,d2,n1,n2⟩:=hp;have mH:n*p.num≤ia n p*p.den:=by
  unfold ia;have:=Int.lt_ediv_add_one_mul_self (n*p.num+p.den-1) (show 0<p.den by omega);rw[Al,Int.one_mul] at this;omega
 have vD:ia n p*p.den≤n*p.num+p.den:=by
  unfold ia;have:=Int.ediv_mul_le (n*p.num+p.den-1) (show p.den≠0 by omega);omega
 generalize ia n p=m at*;have e0:m*(B*p.den)=B*(m*p.den):=by rw[←qj,Px m B,qj]
 rw[e0];have l1:=IU mH hB;have l2:=IU vD hB;have l3:=ak0 h1 n1;have l4:=ak0 h2 n1;have e1:B*(n*p.num)=n*B*p.num:=by rw[←qj,Px B n]
 have e2:1000000000*A*p.num=1000000000*(A*p.num):=qj ..;have e3:B*(n*p.num+p.den)=B*(n*p.num)+B*p.den:=Int.mul_add ..;have e4:(1000000000*A+c*B)*p.num=1000000000*A*p.num+c*(B*p.num):=by rw[Al,qj c]
 have l5:c*(B*p.num)≤c*(B*p.den):=IU (IU n2 hB) hc;have e5:(c+1)*(B*p.den)=c*(B*p.den)+B*p.den:=by rw[Al,Int.one_mul]
 omega
theorem afa {p:Ratio}(hp:p.right):∀(k:Nat) {n A B c:Int},0≤B→0≤c→1000000000*A≤n*B→n*B≤1000000000*A+c*B→
 1000000000*(A*p.num^k)≤pB p k n*(B*p.den^k)∧pB p k n*(B*p.den^k)≤1000000000*(A*p.num^k)+(c+k)*(B*p.den^k)
 |0,n,A,B,c,hB,hc,h1,h2=>by simpa [pB] using⟨h1,h2⟩
 |k+1,n,A,B,c,hB,hc,h1,h2=>by
  obtain⟨g1,g2⟩:=ayB hp hB hc h1 h2;have hd:0≤p.den:=by have:=hp.1;omega
  have:=afa hp k (xr hB hd) (show 0≤c+1 by omega) g1 g2;rw[qj,qj,←Int.pow_succ',←Int.pow_succ'] at this;rw[show c+1+(k:Int)=c+((k+1:Nat):Int) by omega] at this;exact this
theorem aij {f:Nat→Int}{cS:Nat→Nat}:∀{g:Nat},(∀i,i<g→0≤f i)→0≤kL f cS g
 |0,_=>by simp[kL]
 |g+1,h=>xr (aij fun i hi=>h i (by omega)) (Int.pow_nonneg (h g (by omega)))
def sX (ps:List Ratio)(g:Nat):Int:=(ps.getD g default).num
def nz (ps:List Ratio)(g:Nat):Int:=(ps.getD g default).den
theorem abU {ps:List Ratio}(h:jY ps)(cS:Nat→Nat):∀g,g≤10→
 1000000000*kL (sX ps) cS g≤kr ps cS g*kL (nz ps) cS g∧kr ps cS g*kL (nz ps) cS g≤1000000000*kL (sX ps) cS g+(p7 cS g:Nat)*kL (nz ps) cS g
 |0,_=>by simp[kL,kr,p7]
 |g+1,hg=>by
  obtain⟨h1,h2⟩:=abU h cS g (by omega);have hB:0≤kL (nz ps) cS g:=aij fun i hi=>by have:=(h.at (show i<10 by omega)).1;unfold nz;omega
  have:=afa (h.at (show g<10 by omega)) (cS g) hB (by omega) h1 h2;rw[show((p7 cS g:Nat):Int)+(cS g:Nat)=((p7 cS (g+1):Nat):Int) by simp[p7]] at this;exact this
theorem aii (f:Nat→Int)(cS:Nat→Nat)(x:Nat):∀g,kL f (fun i=>cS i+if i=x then 1 else 0) g=(if x<g then f x else 1)*kL f cS g
 |0=>by simp[kL]
 |g+1=>by
  rw[kL,aii f cS x g,kL];by_cases e:g=x
  ·subst e;rw[if_neg (by omega),if_pos rfl,if_pos (by omega),Int.pow_succ,Int.one_mul,Px (f g^cS g),←qj,←qj,Px (f g)]
  ·rw[if_neg e,mq];by_cases h:x<g
   ·rw[if_pos h,if_pos (by omega),qj]
   ·rw[if_neg h,if_neg (by omega),qj]
theorem aj5 (cS:Nat→Nat)(x:Nat):∀g,p7 (fun i=>cS i+if i=x then 1 else 0) g=(if x<g then 1 else 0)+p7 cS g
 |0=>by simp[p7]
 |g+1=>by
  rw[p7,aj5 cS x g,p7];by_cases e:g=x
  ·subst e;simp;omega
  ·by_cases h:x<g
   ·simp[e,h,show x<g+1 by omega];omega
   ·simp[e,h,show ¬x<g+1 by omega]
theorem amS (x:Int)(L:List Int)(h0:0≤x):dz (x::L)=fun i=>dz L i+if i=x.toNat then 1 else 0:=by
 funext i;unfold dz;by_cases e:x=(i:Int)
 ·subst e;simp
 ·have:¬i=x.toNat:=by omega
  simp[e,this]
def ou (f:Nat→Int):List Int→Int
 |[]=>1
 |x::L=>f x.toNat*ou f L
theorem Ni (f:Nat→Int):∀L:List Int,(∀x,x∈L→0≤x∧x<10)→kL f (dz L) 10=ou f L∧p7 (dz L) 10=L.length
 |[],_=>by
  have e:dz []=fun _=>0:=rfl;rw[e];constructor
  ·simp[kL,ou]
  ·rfl
 |x::L,h=>by
  obtain⟨h0,h1⟩:=h x (by simp);obtain⟨g1,g2⟩:=Ni f L fun y hy=>h y (by simp[hy]);have hx:x.toNat<10:=by omega
  rw[amS x L h0,aii,aj5,if_pos hx,if_pos hx,g1,g2];exact⟨rfl,by simp;omega⟩
theorem amy {ps:List Ratio}(h:jY ps){L:List Int}(hL:∀x,x∈L→0≤x∧x<10):
 1000000000*ou (sX ps) L≤kr ps (dz L) 10*ou (nz ps) L∧kr ps (dz L) 10*ou (nz ps) L≤1000000000*ou (sX ps) L+(L.length:Int)*ou (nz ps) L:=by
 have:=abU h (dz L) 10 (bn _);rw[(Ni _ L hL).1,(Ni _ L hL).1,(Ni (sX ps) L hL).2] at this;exact this
theorem aB5 {r:Realm}{l:List Effect}{ps:List Ratio}{S:Nat}(hS:S≤1099511627776)(h:∀e,e∈l→e.sum=S∨e.sum=0):jU r l ps=S*(1000000000-kX r (eQ r l 1) ps)/1000000000:=by
 have hg:∀s:Nat,0<s→s≤S→dx r l ps s=1000000000-kX r (eQ r l 1) ps:=by
  intro s h0 hs;have e1:eQ r l s=eQ r l 1:=by
   refine TL (BV _ _ _) (BV _ _ _) fun g=>?_;rw[vy,vy];refine exists_congr fun e=>and_congr_right fun he=>and_congr_left fun _=>?_;rcases h e he with e|e<;>omega
  unfold dx;rw[e1]
 unfold jU;rw[Iw (f:=dx r l ps) (m:=S) (fun s hs=>Vo fun e he=>by rcases h e he with e|e<;>omega) hS];have:=OV (f:=dx r l ps) (p:=1000000000-kX r (eQ r l 1) ps) S 0 fun s h1 h2=>hg s h1 (by omega);rw[je] at this;rw[this];simp[fW]
def mulR (a b:Nat×Nat):Nat×Nat:=
 if a.1=0∨b.1=0 then(0,1) else(a.1/Nat.gcd a.1 b.2*(b.1/Nat.gcd b.1 a.2),a.2/Nat.gcd b.1 a.2*(b.2/Nat.gcd a.1 b.2))
def lH (n d:Nat):Nat×Nat:=(n/Nat.gcd n d,d/Nat.gcd n d)
structure FracOK (a:Nat×Nat) (A B:Nat):Prop where
 cop:Nat.gcd a.1 a.2=1
 pos:0<a.2
 le:a.1≤a.2
 val:a.1*B=A*a.2
theorem ajy {n d:Nat}(hd:0<d)(h:n≤d):FracOK (lH n d) n d∧(lH n d).2≤d:=by
 have hg:0<Nat.gcd n d:=DV n hd;obtain⟨a,ha⟩:=I3 n d;obtain⟨b,hb⟩:=DU n d;have hc:Nat.gcd (n/Nat.gcd n d) (d/Nat.gcd n d)=1:=aa7 hg;refine⟨⟨hc,Nat.div_pos (Nat.le_of_dvd hd (DU n d)) hg,Nat.div_le_div_right h,?_⟩,jX _ _⟩;show n/Nat.gcd n d*d=n*(d/Nat.gcd n d);rw[Nat.div_mul_right_comm (I3 n d),Nat.mul_div_assoc _ (DU n d)]
theorem avC {a b:Nat×Nat}{A B C D:Nat}(ha:FracOK a A B)(hb:FracOK b C D)(hB:0<B)(hD:0<D):FracOK (mulR a b) (A*C) (B*D)∧(mulR a b).2≤a.2*b.2:=by
 obtain⟨n1,d1⟩:=a;obtain⟨n2,d2⟩:=b;obtain⟨c1,p1,l1,v1⟩:=ha;obtain⟨c2,p2,l2,v2⟩:=hb;simp only at c1 p1 l1 v1 c2 p2 l2 v2;unfold mulR;simp only;by_cases h0:n1=0∨n2=0
 ·rw[if_pos h0];have hz:A*C=0:=by
   rcases h0 with rfl|rfl
   ·rw[xL] at v1;have:A=0:=by rcases abd.1 v1.symm with e|e<;>omega
    rw[this,xL]
   ·rw[xL] at v2;have:C=0:=by rcases abd.1 v2.symm with e|e<;>omega
    rw[this,Nat.mul_zero]
  exact⟨⟨by simp,by simp,by simp,by simp[hz]⟩,PR p1 p2⟩
 rw[if_neg h0];have hg:0<Nat.gcd n1 d2:=DV _ p2;have hh:0<Nat.gcd n2 d1:=DV _ p1;have k1:Nat.Coprime (n1/Nat.gcd n1 d2) (d2/Nat.gcd n1 d2):=aa7 hg;have k2:Nat.Coprime (n2/Nat.gcd n2 d1) (d1/Nat.gcd n2 d1):=aa7 hh;have e1:n1/Nat.gcd n1 d2*Nat.gcd n1 d2=n1:=PN (I3 ..);have e2:d2/Nat.gcd n1 d2*Nat.gcd n1 d2=d2:=PN (DU ..);have e3:n2/Nat.gcd n2 d1*Nat.gcd n2 d1=n2:=PN (I3 ..);have e4:d1/Nat.gcd n2 d1*Nat.gcd n2 d1=d1:=PN (DU ..);generalize Nat.gcd n1 d2=g at*;generalize Nat.gcd n2 d1=h at*;generalize n1/g=a at*;generalize d2/g=d at*;generalize n2/h=c at*;generalize d1/h=b at*;subst e1 e2 e3 e4;have hgh:0<g*h:=PR hg hh;have ca:Nat.Coprime a b:=ala (PO a g) (alb (PO b h) c1);have cc:Nat.Coprime c d:=ala (PO c h) (alb (PO d g) c2);have pb:0<b:=ald p1;have pd:0<d:=ald p2;refine⟨⟨?_,PR pb pd,?_,?_⟩,?_⟩
 ·exact Nat.Coprime.mul_left (Nat.Coprime.mul_right ca k1) (Nat.Coprime.mul_right k2 cc)
 ·refine Au ?_ hgh;have:=rV l1 l2
  calc a*c*(g*h)=a*g*(c*h):=by ac_rfl
   _≤b*h*(d*g):=this
   _=b*d*(g*h):=by ac_rfl
 ·refine Nat.eq_of_mul_eq_mul_right hgh ?_
  calc a*c*(B*D)*(g*h)=(a*g*B)*(c*h*D):=by ac_rfl
   _=(A*(b*h))*(C*(d*g)):=by rw[v1,v2]
   _=A*C*(b*d)*(g*h):=by ac_rfl
 ·exact rV (aba _ hh) (aba _ hg)
theorem at0 {S n W an ad A B:Nat}(hn:n≤1000000000)(hB:0<B)(hle:an≤ad)(hv:an*B=A*ad)(h1:1000000000*A≤n*B)(hW:W=S*(1000000000-n)/1000000000):W*ad≤(ad-an)*S:=by
 have k1:1000000000*an≤n*ad:=by
  refine Au ?_ hB
  calc 1000000000*an*B=1000000000*A*ad:=by rw[tM,hv,tM]
   _≤n*B*ad:=ff _ h1
   _=n*ad*B:=by ac_rfl
 have k2:W*1000000000≤S*(1000000000-n):=by rw[hW];exact Nat.div_mul_le_self _ _
 refine Au (c:=1000000000) ?_ (by omega)
 calc W*ad*1000000000=W*1000000000*ad:=by ac_rfl
  _≤S*(1000000000-n)*ad:=ff _ k2
  _=S*((1000000000-n)*ad):=by ac_rfl
  _≤S*((ad-an)*1000000000):=by
   refine I5 _ ?_;rw[DY,DY];omega
  _=(ad-an)*S*1000000000:=by ac_rfl
theorem arz {S n W an ad A B k C:Nat}(hn:n≤1000000000)(hB:0<B)(hle:an≤ad)(hv:an*B=A*ad)(h2:n*B≤1000000000*A+k*B)(hW:W=S*(1000000000-n)/1000000000)(hC:S*k≤C*1000000000):(ad-an)*S≤(W+1+C)*ad:=by
 have k1:n*ad≤1000000000*an+k*ad:=by
  refine Au ?_ hB
  calc n*ad*B=n*B*ad:=by ac_rfl
   _≤(1000000000*A+k*B)*ad:=ff _ h2
   _=1000000000*(A*ad)+k*ad*B:=by rw[gI];congr 1<;>ac_rfl
   _=(1000000000*an+k*ad)*B:=by rw[←hv,gI,←tM]
 have k2:S*(1000000000-n)≤(W+1)*1000000000:=by rw[hW];have:=Nat.lt_div_mul_add (a:=S*(1000000000-n)) (b:=1000000000) (by omega);rw[gI];omega
 refine Au (c:=1000000000) ?_ (by omega);have k3:(ad-an)*1000000000≤(1000000000-n)*ad+k*ad:=by
  rw[DY,DY];have:n*ad≤1000000000*ad:=ff _ hn;omega
 calc (ad-an)*S*1000000000=S*((ad-an)*1000000000):=by ac_rfl
  _≤S*((1000000000-n)*ad+k*ad):=I5 _ k3
  _=S*(1000000000-n)*ad+S*k*ad:=by rw[Nat.mul_add];congr 1<;>ac_rfl
  _≤(W+1)*1000000000*ad+C*1000000000*ad:=Nat.add_le_add (ff _ k2) (ff _ hC)
  _=(W+1+C)*ad*1000000000:=by
   rw[gI (W+1) C ad,gI ((W+1)*ad)]
   congr 1<;>ac_rfl
end Rm
namespace Rm
open Go Go.Proofs Cx
theorem tW (z:Int)(h:-9223372036854775808<z∧z<9223372036854775808):aj T 40 [.int z] (u z.natAbs):=by
 refine .of_tree rfl (lA 156 (by kernel_rfl)) aAC ?_;by_cases hz:z<0
 ·have hw:IntKind.u64.wrap z=z+18446744073709551616:=by rw[xl];omega
  have cQ:IntKind.u64.wrap (-(z+18446744073709551616))=(z.natAbs:Int):=by rw[xl];omega
  simp[Pe,hz,hw,cQ]
 ·have hw:IntKind.u64.wrap z=(z.natAbs:Int):=by rw[xl];omega
  simp[Pe,hz,hw]
theorem Dz (a b:Nat)(ha:a<18446744073709551616)(hb:b<18446744073709551616):aj T 44 [u a,u b] (.agg [u (a*b/18446744073709551616),u (a*b%18446744073709551616)]):=by
 refine .of_tree rfl (lA 161 (by kernel_rfl)) aAG ?_;simp[YX];exact⟨_,Uc a b ha hb,rfl⟩
theorem RR (n d:Nat)(hn:n≤1152921504606846976)(hd:d≤1152921504606846976):aj T 42 [.bool false,.agg [u 0,u n],.agg [u 0,u d]] (.tup [gN ⟨n,d⟩,.int 0]):=by
 have hw:IntKind.i64.wrap (n:Int)=n:=aN (by omega);have cQ:IntKind.i64.wrap (d:Int)=d:=aN (by omega);refine .of_tree rfl (lA 158 (by kernel_rfl)) aAE ?_;simp[YV,hw,cQ];exact⟨by omega,rfl⟩
theorem VS (n g:Nat)(hn:n<18446744073709551616):IntKind.u64.wrap ((n:Int)/(g:Int))=((n/g:Nat):Int):=by
 rw[←Int.natCast_ediv];exact fu (xH (jX _ _) hn)
theorem G1 (n g:Nat)(hn:n<18446744073709551616):IntKind.u64.wrap ((n:Int).tdiv (g:Int))=((n/g:Nat):Int):=by
 rw[xt (by omega)];exact VS n g hn
abbrev iJ:Nat:=1152921504606846976
def ky (p:Nat×Nat):D:=gN ⟨p.1,p.2⟩
theorem PM (n d:Nat)(hn:n≤iJ)(hd:0<d∧d≤iJ):aj T 13 [.int n,.int d] (.tup [ky (lH n d),.int 0]):=by
 have EK:iJ=1152921504606846976:=rfl;have jo:0<Nat.gcd n d:=DV _ hd.1;have vU:n/Nat.gcd n d≤n:=jX _ _;have uJ:d/Nat.gcd n d≤d:=jX _ _;have LM:=BT n d (by omega) (by omega);have yL:=VS n (Nat.gcd n d) (by omega);have fO:=VS d (Nat.gcd n d) (by omega);unfold lH;generalize Nat.gcd n d=g at*;generalize n/g=x at*;generalize d/g=y at*;have a1:=tW n (by omega);have a2:=tW d (by omega);simp only[aaQ] at a1 a2;have arl:=RR x y (by omega) (by omega);refine .of_tree rfl (lA 155 (by kernel_rfl)) aAy ?_;have m0:¬(d:Int)=0:=by omega
 have m1:¬(d:Int)<0:=by omega
 have n1:¬(n:Int)<0:=by omega
 have g0:¬(g:Int)=0:=by omega
 simp[YQ,m0];refine⟨by omega,_,a1,_,a2,_,LM,by simpa using g0,?_⟩;simp[yL,fO];have e:(!decide ((n:Int)<0)==decide ((d:Int)<0))=false:=by simp[n1,m1]
 rw[e];exact⟨_,arl,rfl,rfl⟩
theorem PZ (z:Int)(d:Nat)(hz:z.natAbs≤iJ)(hd:d≤iJ):aj T 43 [gN ⟨z,d⟩] (.bool (decide (1≤d∧Nat.gcd z.natAbs d=1))):=by
 have EK:iJ=1152921504606846976:=rfl;have a1:=tW z (by omega);have LM:=BT z.natAbs d (by omega) (by omega);have hw:IntKind.u64.wrap (d:Int)=d:=fu (by omega);refine .of_tree rfl (lA 160 (by kernel_rfl)) aAA ?_;simp[YS,gN];by_cases h1:1≤d
 ·rw[if_pos (by omega)];refine⟨_,a1,?_⟩;rw[if_neg (by show ¬((_∨_)∨(1152921504606846976:Int)<(z.natAbs:Nat));omega),hw];refine⟨_,a1,_,LM,?_⟩;show decide (((Nat.gcd z.natAbs d:Nat):Int)=1)=_;simp[h1];omega
 ·rw[if_neg (by omega),if_pos (by omega)];exact fun h=>absurd h h1
theorem DZ (z:Int)(d:Nat)(hz:z.natAbs≤iJ)(hd:1≤d∧d≤iJ)(hc:Nat.gcd z.natAbs d=1):aj T 43 [gN ⟨z,d⟩] (.bool true):=by
 have:=PZ z d hz hd.2
 rwa [decide_eq_true ⟨hd.1,hc⟩] at this
theorem Xl (ah al:Nat)(m:Bool)(bh bl:Nat)(l:Bool)(h:m=l∨(m=false∧l=true)):aj T 46 [.agg [u ah,u al],.bool m,.agg [u bh,u bl],.bool l] (zT ah al m bh bl l):=by
 refine .of_ext (g:=fun _ ds=>OU ds) rfl ⟨0,fun _ _=>?_⟩;show(if m=l∨(m=false∧l=true) then some (zT (ah:Int).toNat (al:Int).toNat m (bh:Int).toNat (bl:Int).toNat l) else none)=_;rw[if_pos h];rfl
theorem ak9 (a b:Nat×Nat)(ha:Nat.gcd a.1 a.2=1∧0<a.2∧a.1≤a.2)(hb:Nat.gcd b.1 b.2=1∧0<b.2∧b.1≤b.2)(hd:a.2*b.2≤iJ):aj T 14 [ky a,ky b] (.tup [ky (mulR a b),.int 0]):=by
 have EK:iJ=1152921504606846976:=rfl;obtain⟨n,d⟩:=a;obtain⟨m,e⟩:=b;simp only at ha hb hd;have d1:d≤d*e:=aba _ hb.2.1;have d2:e≤d*e:=aa9 _ ha.2.1;have r1:=DZ n d (by omega) (by omega) ha.1;have r2:=DZ m e (by omega) (by omega) hb.1;have a1:=tW n (by omega);have a2:=tW m (by omega);simp only[aaQ] at a1 a2;have g1:=BT n e (by omega) (by omega);have g2:=BT m d (by omega) (by omega);have jo:0<Nat.gcd n e:=DV _ hb.2.1;have gR:0<Nat.gcd m d:=DV _ ha.2.1;have q1:=G1 n (Nat.gcd n e) (by omega);have q2:=G1 m (Nat.gcd m d) (by omega);have q3:=G1 d (Nat.gcd m d) (by omega);have q4:=G1 e (Nat.gcd n e) (by omega);have w1:IntKind.u64.wrap (d:Int)=d:=fu (by omega);have w2:IntKind.u64.wrap (e:Int)=e:=fu (by omega);have Cj:n/Nat.gcd n e*(m/Nat.gcd m d)≤d*e:=rV (dO (jX _ _) ha.2.2) (dO (jX _ _) hb.2.2);have fl:d/Nat.gcd m d*(e/Nat.gcd n e)≤d*e:=rV (jX _ _) (jX _ _);have t1:=Dz (n/Nat.gcd n e) (m/Nat.gcd m d) (xH (jX _ _) (by omega)) (xH (jX _ _) (by omega));have t2:=Dz (d/Nat.gcd m d) (e/Nat.gcd n e) (xH (jX _ _) (by omega)) (xH (jX _ _) (by omega));refine .of_tree rfl (lA 159 (by kernel_rfl)) aAz ?_;unfold mulR ky;simp only;generalize Nat.gcd n e=g at*;generalize Nat.gcd m d=h at*;generalize n/g=x at*;generalize m/h=y at*;generalize d/h=v at*;generalize e/g=w at*;have gv:=RR (x*y) (v*w) (by omega) (by omega);rw[aa8 (by omega),DW (by omega)] at t1 t2;simp[YR,gN];refine⟨_,r1,?_⟩;rw[w1,w2];refine⟨rfl,_,r2,⟨rfl,rfl⟩,?_⟩;by_cases h0:n=0∨m=0
 ·simp[h0]
 rw[if_neg h0];simp only[if_neg h0];have n1:¬(n:Int)<0:=by omega
 have m1:¬(m:Int)<0:=by omega
 have e0:(!decide ((n:Int)<0)==decide ((m:Int)<0))=false:=by simp[n1,m1]
 have g0:¬(u g).i=0:=by show ¬(g:Int)=0;omega
 have fi:¬(u h).i=0:=by show ¬(h:Int)=0;omega
 have Dv:aj T 44 [.v (.int .u64 (IntKind.u64.wrap ((n:Int).tdiv (g:Int)))),.v (.int .u64 (IntKind.u64.wrap ((m:Int).tdiv (h:Int))))] (.agg [u 0,u (x*y)]):=by rw[q1,q2];exact t1
 have Iy:aj T 44 [.v (.int .u64 (IntKind.u64.wrap ((d:Int).tdiv (h:Int)))),.v (.int .u64 (IntKind.u64.wrap ((e:Int).tdiv (g:Int))))] (.agg [u 0,u (v*w)]):=by rw[q3,q4];exact t2
 rw[e0];exact⟨_,a1,_,a2,_,g1,_,g2,g0,fi,_,Dv,fi,g0,_,Iy,_,gv,rfl,rfl⟩
theorem alk (x:Nat)(hx:x<18446744073709551616):aj T 84 [u 0,u x,u 1] (u 0):=by
 have h:=K4 0 x 1 (by decide) (by decide) hx (by decide);rw[Nat.mod_one,Nat.div_one,xL,je] at h;refine .of_tree rfl (lA 164 (by kernel_rfl)) azn ?_;simp[XL];exact⟨_,h,rfl⟩
theorem awj (x:Nat)(hx:x<18446744073709551616):aj T 85 [.agg [u 0,u x],u 1] (.agg [u 0,u x]):=by
 have h0:=K4 0 0 1 (by decide) (by decide) (by decide) (by decide);have h:=K4 0 x 1 (by decide) (by decide) hx (by decide);rw[Nat.mod_one,Nat.div_one,xL,je] at h0 h;refine .of_tree rfl (lA 165 (by kernel_rfl)) aAF ?_;simp[YW];exact⟨_,h0,_,h,rfl⟩
theorem alo (a:Nat×Nat)(ha:Nat.gcd a.1 a.2=1∧0<a.2∧a.1≤a.2)(hd:a.2≤iJ):aj T 15 [ky (1,1),ky a] (.tup [ky (a.2-a.1,a.2),.int 0]):=by
 have EK:iJ=1152921504606846976:=rfl;obtain⟨n,d⟩:=a;simp only at ha hd;have r1:=DZ 1 1 (by decide) (by decide) (by decide);have r2:=DZ n d (by omega) (by omega) ha.1;have hn:IntKind.i64.wrap (-(n:Int))=-(n:Int):=aN (by omega);have hna:(-(n:Int)).natAbs=n:=by omega
 have r3:=DZ (-(n:Int)) d (by omega) (by omega) (by rw[hna];exact ha.1);have w1:IntKind.u64.wrap (d:Int)=d:=fu (by omega);have w0:IntKind.u64.wrap 1=1:=rfl;have a1:=tW 1 (by decide);have a2:=tW (-(n:Int)) (by omega);rw[hna] at a2;have g1:=BT 1 d (by decide) (by omega);rw[Nat.gcd_one_left] at g1;have g2:aj T 41 [u 1,u 0] (u 1):=BT 1 0 (by decide) (by decide);have t1:=Dz 1 d (by decide) (by omega);have t2:=Dz n 1 (by omega) (by decide);rw[aa8 (by omega),DW (by omega)] at t1 t2;rw[PS] at t1;rw[DX] at t2;have hs:aj T 46 [.agg [u 0,u d],.bool false,.agg [u 0,u n],.bool (decide (0<n))] (.tup [.agg [u 0,u (d-n)],.bool false]):=by
  by_cases h0:n=0
  ·subst h0;have:=Xl 0 d false 0 0 false (.inl rfl);unfold zT at this;rw[if_pos rfl,show(0+0+(d+0)/cD)%cD=0 by unfold cD;omega,show(d+0)%cD=d by unfold cD;omega] at this;exact this
  ·have:=Xl 0 d false 0 n true (.inr ⟨rfl,rfl⟩);unfold zT at this;rw[if_neg (by simp),if_neg (by omega),if_neg (by omega),show(0+cD-0-0)%cD=0 by unfold cD;omega,show(d+cD-n)%cD=d-n by unfold cD;omega] at this;rw[show decide (0<n)=true by simp;omega];exact this
 have hAdd:aj T 45 [ky (1,1),gN ⟨-(n:Int),d⟩] (.tup [ky (d-n,d),.int 0]):=by
  refine .of_tree rfl (lA 163 (by kernel_rfl)) aAw ?_;simp[YO,gN,ky];refine⟨_,r1,?_⟩;rw[w1,w0];refine⟨rfl,_,r3,⟨rfl,rfl⟩,_,g1,(by decide),_,a1,?_⟩;have Dv:aj T 44 [u 1,.v (.int .u64 (IntKind.u64.wrap ((d:Int).tdiv ((1:Nat):Int))))] (.agg [u 0,u d]):=by rw[G1 d 1 (by omega),Nat.div_one];exact t1
  have Iy:aj T 44 [u n,.v (.int .u64 (IntKind.u64.wrap (Int.tdiv 1 ((1:Nat):Int))))] (.agg [u 0,u n]):=t2;have t3':aj T 44 [.v (.int .u64 (IntKind.u64.wrap (Int.tdiv 1 ((1:Nat):Int)))),.v (.int .u64 (IntKind.u64.wrap ((d:Int).tdiv ((1:Nat):Int))))] (.agg [u 0,u d]):=Dv;refine⟨_,Dv,_,a2,_,Iy,_,hs,?_⟩;by_cases h0:n=d
  ·rw[if_pos (by show((0:Nat):Int)=0∧((d-n:Nat):Int)=0;omega)];subst h0;rw[Nat.gcd_self] at ha;omega
  ·rw[if_neg (by show ¬(((0:Nat):Int)=0∧((d-n:Nat):Int)=0);omega)];exact⟨_,alk (d-n) (by omega),_,g2,_,awj (d-n) (by omega),(by decide),_,t3',_,RR (d-n) d (by omega) (by omega),rfl,rfl⟩
 refine .of_tree rfl (lA 162 (by kernel_rfl)) aAB ?_;simp[YT,gN,ky,hn];exact⟨_,r2,rfl,_,hAdd,rfl,rfl⟩
theorem aaK (a b:Nat×Nat)(ha:a.1≤iJ∧a.2≤iJ)(hb:b.1≤iJ∧b.2≤iJ)(h:a.1*b.2≤b.1*a.2):∃d,aj T 16 [ky a,ky b] d∧∃c:Int,d=.int c∧c≤0:=by
 have EK:iJ=1152921504606846976:=rfl;obtain⟨n,d⟩:=a;obtain⟨m,e⟩:=b;simp only at ha hb h;have r1:=PZ n d (by omega) (by omega);have r2:=PZ m e (by omega) (by omega);have a1:=tW n (by omega);have a2:=tW m (by omega);simp only[aaQ] at a1 a2;have w1:IntKind.u64.wrap (d:Int)=d:=fu (by omega);have w2:IntKind.u64.wrap (e:Int)=e:=fu (by omega);have t1:=Dz n e (by omega) (by omega);have t2:=Dz m d (by omega) (by omega);have hs:=Xl (n*e/18446744073709551616) (n*e%18446744073709551616) false (m*d/18446744073709551616) (m*d%18446744073709551616) true (.inr ⟨rfl,rfl⟩);refine aj.ex_of_tree rfl alO aAx ?_;simp[YP,gN,ky];refine⟨_,r1,?_⟩;generalize decide (1≤d∧Nat.gcd (n:Int).natAbs d=1)=p at*;generalize decide (1≤e∧Nat.gcd (m:Int).natAbs e=1)=q at*;have n0:decide ((n:Int)<0)=false:=by simp
 have Dv:aj T 44 [u n,.v (.int .u64 (IntKind.u64.wrap (e:Int)))] (.agg [u (n*e/18446744073709551616),u (n*e%18446744073709551616)]):=by rw[w2];exact t1
 have Iy:aj T 44 [u m,.v (.int .u64 (IntKind.u64.wrap (d:Int)))] (.agg [u (m*d/18446744073709551616),u (m*d%18446744073709551616)]):=by rw[w1];exact t2
 rw[n0];cases p
 ·simp
 intro _;refine⟨_,r2,fun _ _=>⟨_,a1,_,Dv,_,a2,_,Iy,_,hs,?_⟩⟩;generalize n*e=X at*;generalize m*d=Y at*;unfold zT;rw[if_neg (by simp)];by_cases c:X/18446744073709551616<Y/18446744073709551616∨(X/18446744073709551616=Y/18446744073709551616∧X%18446744073709551616<Y%18446744073709551616)
 ·rw[if_pos c];exact fun _=>rfl
 ·have e1:X=Y:=by omega
  subst e1;rw[if_neg c,if_neg (by omega),show(X/18446744073709551616+cD-X/18446744073709551616-0)%cD=0 by unfold cD;omega,show(X%18446744073709551616+cD-X%18446744073709551616)%cD=0 by unfold cD;omega];exact fun h=>absurd rfl (h rfl)
end Rm
namespace Rm
open Go Go.Proofs Cx
theorem ak1 (e:Effect):aj T 11 [gM e] (.bool (jK e)):=by
 refine .of_tree rfl (lA 154 (by kernel_rfl)) aAv ?_;simp[YN,jK];by_cases h:e.binds=1<;>by_cases h2:e.kind=1<;>simp[h,h2]
def Li (r:Realm)(forum:Int)(f:File)(day s:Int):List Int:=if sR r forum then eQ r (eX r forum f day) s else[]
theorem ak4 (r:Realm)(hr:Right r)(hd:RightD r)(forum:Int)(f:File)(day s:Int)(hf:FewS f)(hp:PayOK r (eX r forum f day)):aj T 12 [aT r,.int forum,cg f,.int day,.int s] (ints (Li r forum f day s)):=by
 unfold Li;by_cases ho:sR r forum
 ·rw[if_pos ho];exact aaT r hr hd forum f day s hf ho hp
 ·rw[if_neg ho];refine .of_tree rfl abz akf ?_;simp[Pc];refine⟨_,Mm r forum,?_⟩;have gU:¬(0≤forum∧forum<r.orders.length):=ho;simp[gU,ints]
theorem aCo {r:Realm}{l:List Effect}{ps:List Ratio}(hq:jY ps)(h:∀e,e∈l→e.sum=0):jU r l ps=0:=by
 have h1:=akw (r:=r) (l:=l) hq;have h2:=aB4 (r:=r) (l:=l) hq (m:=0) (fun e he=>by have:=h e he;omega) (by decide);omega
theorem ajz {n d:Nat}(hd:0<d):(lH n d).1*d=n*(lH n d).2:=by
 show n/Nat.gcd n d*d=n*(d/Nat.gcd n d);rw[Nat.div_mul_right_comm (I3 n d),Nat.mul_div_assoc _ (DU n d)]
def jy (ps:List Ratio)(x:Int):Nat×Nat:=(((ps.getD x.toNat default).num).toNat,((ps.getD x.toNat default).den).toNat)
def uQ (f:Int→Nat):List Int→Nat
 |[]=>1
 |x::L=>f x*uQ f L
def sq (ps:List Ratio)(L:List Int)(a:Nat×Nat):Nat×Nat:=L.foldl (fun a x=>mulR a (lH (jy ps x).1 (jy ps x).2)) a
theorem ai8 {ps:List Ratio}(hq:jY ps){x:Int}(hx:0≤x∧x<10):0<(jy ps x).2∧(jy ps x).2≤1073741824∧(jy ps x).1≤(jy ps x).2∧sX ps x.toNat=((jy ps x).1:Int)∧nz ps x.toNat=((jy ps x).2:Int):=by
 obtain⟨h1,h2,h3,h4⟩:=hq.at (g:=x.toNat) (by omega);unfold jy sX nz;simp only;omega
theorem acT {ps:List Ratio}(hq:jY ps):∀(L:List Int),(∀x,x∈L→0≤x∧x<10)→∀{a:Nat×Nat} {A B:Nat},FracOK a A B→0<B→
 FracOK (sq ps L a) (A*uQ (fun x=>(jy ps x).1) L) (B*uQ (fun x=>(jy ps x).2) L)∧0<B*uQ (fun x=>(jy ps x).2) L∧(sq ps L a).2≤a.2*1073741824^L.length∧
  ou (sX ps) L=((uQ (fun x=>(jy ps x).1) L:Nat):Int)∧ou (nz ps) L=((uQ (fun x=>(jy ps x).2) L:Nat):Int)
 |[],_,a,A,B,h,hB=>by simpa [sq,uQ,ou] using⟨h,hB⟩
 |x::L,hL,a,A,B,h,hB=>by
  obtain⟨q1,q2,q3,q4,q5⟩:=ai8 hq (hL x (by simp));obtain⟨r1,r2⟩:=ajy q1 q3;obtain⟨m1,m2⟩:=avC h r1 hB q1;obtain⟨g1,g2,g3,g4,g5⟩:=acT hq L (fun y hy=>hL y (by simp[hy])) m1 (PR hB q1);rw[tM A,tM B] at g1;rw[tM B] at g2;refine⟨g1,g2,dO g3 ?_,?_,?_⟩
  ·rw[oL,Nat.pow_succ',←tM];exact ff _ (dO m2 (I5 _ (dO r2 q2)))
  ·show sX ps x.toNat*ou (sX ps) L=_;rw[g4,q4,←Int.natCast_mul];rfl
  ·show nz ps x.toNat*ou (nz ps) L=_;rw[g5,q5,←Int.natCast_mul];rfl
theorem amR {x y W S c d:Nat}(hS:0<S)(hv:x*S=W*y)(h:W*d≤c*S):x*d≤c*y:=by
 refine Au (c:=S) ?_ hS
 calc x*d*S=W*y*d:=by rw[xJ,hv]
  _=W*d*y:=xJ ..
  _≤c*S*y:=ff _ h
  _=c*y*S:=xJ ..
theorem amQ {x y H S c d:Nat}(hS:0<S)(hv:x*S=H*y)(h:c*S≤H*d):c*y≤x*d:=by
 refine Au (c:=S) ?_ hS
 calc c*y*S=c*S*y:=xJ ..
  _≤H*d*y:=ff _ h
  _=x*S*d:=by rw[hv,xJ]
  _=x*d*S:=xJ ..
theorem alh (r:Realm)(hr:r.OK)(forum:Int)(f:File)(Fh:f.OK)(day:Int)(yx:aY day)(q:Quote)(Tg:q.OK):
 aj T 4 [aT r,.int forum,cg f,.int day,kY q] (.bool true):=by
 refine .of_tree rfl (lA 0 (by kernel_rfl)) azC ?_;simp[XY];obtain⟨d,hd,b,rfl,hb⟩:=al6 r hr f Fh q;refine⟨_,ayd,_,hd,?_⟩;cases b
 ·simp
 obtain⟨uG,hg,hP⟩:=hb rfl;have G:=ap2 hr hg;have lb:jf r=0:=by simp[Fe] at hg;exact hg.2
 have ast:q.fails.length≤4294967296:=by omega
 have hp:=awB G lb hP forum day;have w1:=P2 r G.right G.rightD forum f day G.few q ast hp;have e1:=aaN r G.right G.rightD forum f day G.few;have l1:=ak4 r G.right G.rightD forum f day 1 G.few hp;have du:=Ru r forum f day;have uz:=G.few.signs;simp;refine⟨_,w1,_,e1,?_⟩;have vC:eX r forum f day=(sf r forum f day).filter jK:=rfl;have Ct:=akt r forum f day q;have FB:Li r forum f day 1=if sR r forum then eQ r (eX r forum f day) 1 else[]:=rfl;rw[vC] at hp Ct FB;clear vC;generalize Li r forum f day 1=Gs at*;generalize lM r forum f day q=wE at*;generalize sf r forum f day=E at*;have hEl:E.length≤1000:=by omega
 obtain⟨wv,we⟩:=wE;simp only at w1 ⊢;refine aK.forLoop (α:=Nat×Nat) (fun s vr vo=>vr=[.bool false,.int s.2,.int s.1]∧vo=[]∧s.1≤E.length∧s.2≤1099511627776∧∀e,e∈(E.take s.1).filter jK→e.sum=s.2∨e.sum=0) (fun s=>E.length-s.1) (0,0) ?_ ?_
 ·simp
 ·rintro⟨k,S⟩ vr vo ⟨rfl,rfl,hk,hS,aO⟩;simp only at hk hS aO;by_cases af:k<E.length
  ·have eW:=bu af (by omega);simp[ajb,NZ,af,eW];refine⟨_,ak1 E[k],?_⟩;have htk:(E.take (k+1)).filter jK=(E.take k).filter jK++[E[k]].filter jK:=by rw[il af,IX]
   have hsm:jK E[k]=true→0≤E[k].sum∧E[k].sum≤1099511627776:=fun hb=>hp.sums _ (eu.2 ⟨bW af,hb⟩);generalize E[k]=e at*;cases hb:jK e
   ·simp;have h2:(E.take (k+1)).filter jK=(E.take k).filter jK:=by rw[htk,List.filter_cons_of_neg (by simp[hb]),List.filter_nil,tK]
    exact⟨k+1,by omega,S,⟨rfl,by omega⟩,by omega,hS,fun e' he eB=>aO e' (h2▸eu.2 ⟨he,eB⟩)⟩
   ·simp;intro h0;obtain⟨s0,s1⟩:=hsm hb;refine⟨k+1,by omega,e.sum.toNat,⟨by omega,by omega⟩,by omega,by omega,fun e' he eB=>?_⟩;have hm:e'∈(E.take (k+1)).filter jK:=eu.2 ⟨he,eB⟩;rw[htk,List.filter_cons_of_pos hb,List.filter_nil] at hm;rcases dN.1 hm with hm|hm
    ·rcases aO e' hm with h|h
     ·by_cases uw:0<S
      ·have:=h0 uw;omega
      ·omega
     ·exact .inr h
    ·obtain rfl:=xB.1 hm;omega
  ·have e0:k=E.length:=by omega
   subst e0;rw[DR] at aO;simp[ajb,NZ];refine⟨_,l1,?_⟩;have yC:(ints Gs).l.length=Gs.length:=by simp[ints]
   split
   ·intro uw;rcases Ct with h|⟨hq,ho,h⟩
    ·cases h;rfl
    ·have hz:=aCo (r:=r) (l:=E.filter jK) (G2 hq).2.2 (fun e he=>by rcases aO e he with h|h<;>omega);rw[hz] at h;cases h;rfl
   rename_i sy;rw[yC] at sy;obtain⟨hq,ho,hw⟩:=Ct.resolve_left (fun h=>by cases h;omega);injection hw with hw he;subst he;rw[if_pos ho] at FB;obtain⟨-,-,hQ⟩:=G2 hq;have RY:Ai r Gs:=by rw[FB];exact acW hp.fg hp.firms 1
   have BY:∀x,x∈Gs.map (cj r)→0≤x∧x<10:=fun x hx=>by
        obtain⟨g,hg,rfl⟩:=cu.1 hx;exact hp.gr.at (RY g hg).1 (RY g hg).2
   have fj:=fun k=>acT hQ ((Gs.take k).map (cj r)) (fun x hx=>BY x (by rw[List.map_take] at hx;exact PF hx)) (a:=(1,1)) (A:=1) (B:=1) ⟨by decide,by decide,by decide,by decide⟩ (by decide);have EK:iJ=1152921504606846976:=rfl;refine aK.forRounds Gs.length (fun k=>[.bool false,.int k]) (fun k=>[ky (sq q.fails ((Gs.take k).map (cj r)) (1,1))]) ?_ (fun k hk=>?_) ?_
   ·simp[sq];rfl
   ·have eW:=bu hk (by omega);rw[il hk,np];have yS:∀x,sq q.fails ((Gs.take k).map (cj r)++[x]) (1,1)=mulR (sq q.fails ((Gs.take k).map (cj r)) (1,1)) (lH (jy q.fails x).1 (jy q.fails x).2):=fun x=>by unfold sq;rw[rT];rfl
    simp only[jc,List.map_nil];rw[yS];obtain⟨f1,-,f3,-,-⟩:=fj k;generalize sq q.fails ((Gs.take k).map (cj r)) (1,1)=a at*;simp[ajc,N0,hk,eW];obtain⟨g0,g1⟩:=RY _ (bW hk);generalize Gs[k]=g at*;have pg:=hp.gr.at g0 g1;have FJ:g.toNat<r.groups.length:=by omega
    have Sq:cj r g=r.groups[g.toNat].grade:=by unfold cj;simp[FJ]
    have fN:(((Option.map qI r.groups[g.toNat]?).getD D.none).c 0).i=cj r g:=by rw[Sq];simp[FJ]
    rw[fN];obtain⟨q1,q2,q3,-,-⟩:=ai8 hQ pg;have arN:q.fails.length=10:=hQ.1;have ad4:(cj r g).toNat<q.fails.length:=by omega
    have mJ:=hQ.at (g:=(cj r g).toNat) (by omega);have ln:q.fails.getD (cj r g).toNat default=q.fails[(cj r g).toNat]:=by simp[ad4]
    have hrq:jy q.fails (cj r g)=((q.fails[(cj r g).toNat]).num.toNat,(q.fails[(cj r g).toNat]).den.toNat):=by unfold jy;rw[ln]
    rw[ln] at mJ;rw[hrq] at q1 q2 q3 ⊢;simp only[aX ad4,kW,kV];generalize q.fails[(cj r g).toNat]=p at*;obtain⟨p1,p2,p3,p4⟩:=mJ;simp only at q1 q2 q3 ⊢;have hm:aj T 13 [.int p.num,.int p.den] (.tup [ky (lH p.num.toNat p.den.toNat),.int 0]):=by
     have:=PM p.num.toNat p.den.toNat (by omega) (by omega)
     rwa [Py p3,Py (by omega)] at this
    obtain⟨x1,x2⟩:=ajy q1 q3;have uF:((Gs.take k).map (cj r)).length=k:=by simp;omega
    rw[uF] at f3;have Fk:a.2≤1073741824:=by
     have:k=0∨k=1:=by omega
     rcases this with rfl|rfl<;>simp at f3<;>omega
    have hmul:=ak9 a (lH p.num.toNat p.den.toNat) ⟨f1.cop,f1.pos,f1.le⟩ ⟨x1.cop,x1.pos,x1.le⟩ (dO (rV Fk (dO x2 q2)) (by decide));exact⟨⟨g0,g1⟩,⟨pg.1,by omega⟩,_,hm,_,hmul,⟨rfl,rfl⟩,rfl⟩
   ·obtain⟨f1,f2,f3,f4,f5⟩:=fj Gs.length;rw[DR] at f1 f2 f3 f4 f5 ⊢;generalize sq q.fails (Gs.map (cj r)) (1,1)=a at*;simp[ajc,N0];have hrel:=amy hQ BY;rw[f4,f5] at hrel;have hc:kr q.fails (dz (Gs.map (cj r))) 10=kX r Gs q.fails:=rfl;rw[hc,dM] at hrel;have Td:=uO (r:=r) hQ (E.filter jK) 1;have aet:dx r (E.filter jK) q.fails 1=1000000000-kX r Gs q.fails:=by rw[FB];rfl
    rw[aet] at Td;have sQ:=aB5 (r:=r) (ps:=q.fails) hS aO;rw[←FB] at sQ;have Cu:=akv (r:=r) (l:=E.filter jK) hQ;rw[←hw] at sQ Cu;obtain⟨N,hN⟩:∃N:Nat,kX r Gs q.fails=(N:Int):=⟨(kX r Gs q.fails).toNat,by omega⟩
    rw[hN] at hrel Td sQ;simp only[PS] at f1 f2;generalize uQ (fun x=>(jy q.fails x).1) (Gs.map (cj r))=A at*;generalize uQ (fun x=>(jy q.fails x).2) (Gs.map (cj r))=B at*;have hN9:N≤1000000000:=by omega
    have hwv:wv=((S*(1000000000-N)/1000000000:Nat):Int):=by
     rw[sQ,show(1000000000-(N:Int))=((1000000000-N:Nat):Int) by omega,←Int.natCast_mul];omega
    have h1:1000000000*A≤N*B:=Int.ofNat_le.1 (by rw[Int.natCast_mul,Int.natCast_mul];exact hrel.1);have h2:N*B≤1000000000*A+Gs.length*B:=Int.ofNat_le.1 (by rw[Int.natCast_add,Int.natCast_mul,Int.natCast_mul,Int.natCast_mul];exact hrel.2);generalize hW:S*(1000000000-N)/1000000000=W at*;subst hwv;have uw:0<S:=by omega
    have SB:Gs.length=1∨Gs.length=2:=by omega
    rw[dM] at f3;have Fk:a.2≤iJ:=dO f3 (by rcases SB with h|h<;>rw[h]<;>decide);have hP:S*Gs.length≤2199023255552:=by rcases SB with h|h<;>rw[h]<;>omega
    rw[←Int.natCast_mul];generalize Gs.length=n at*;generalize hPd:S*n=P at*;clear sy f3 hrel sQ Ct Td aet hw;have hC:P≤(P+999999999)/1000000000*1000000000:=by omega
    have hCb:(P+999999999)/1000000000≤1000000:=by omega
    have hH:IntKind.i64.wrap (IntKind.i64.wrap ((W:Int)+1)+IntKind.i64.wrap ((IntKind.i64.wrap (IntKind.i64.wrap (P:Int)+999999999)).tdiv 1000000000))=((W+1+(P+999999999)/1000000000:Nat):Int):=by
     rw[aN (n:=(W:Int)+1) (by omega),aN (n:=(P:Int)) (by omega),aN (n:=(P:Int)+999999999) (by omega),xt (by omega),aN (n:=((P:Int)+999999999)/1000000000) (by omega),aN (by omega)];omega
    rw[hH];generalize (P+999999999)/1000000000=C at*;rw[←hPd] at hC;have k1:=at0 hN9 f2 f1.le f1.val h1 hW.symm;have k2:=arz hN9 f2 f1.le f1.val h2 hW.symm hC;have hM:=alo a ⟨f1.cop,f1.pos,f1.le⟩ Fk;have hL:=PM W S (by omega) ⟨uw,by omega⟩;have hU:=PM (W+1+C) S (by omega) ⟨uw,by omega⟩;have b1:(lH W S).1≤W∧(lH W S).2≤S:=⟨jX _ _,jX _ _⟩
    have b2:(lH (W+1+C) S).1≤W+1+C∧(lH (W+1+C) S).2≤S:=⟨jX _ _,jX _ _⟩
    obtain⟨d1,c1,v1,rfl,aL⟩:=aaK (lH W S) (a.2-a.1,a.2) ⟨by omega,by omega⟩ ⟨by show a.2-a.1≤iJ;omega,Fk⟩ (amR uw (ajz uw) k1);obtain⟨d2,c2,v2,rfl,gq⟩:=aaK (a.2-a.1,a.2) (lH (W+1+C) S) ⟨by show a.2-a.1≤iJ;omega,Fk⟩ ⟨by omega,by omega⟩ (amQ uw (ajz uw) k2);refine⟨_,hM,_,hL,_,hU,⟨⟨rfl,rfl⟩,rfl⟩,_,c1,?_⟩;rw[if_pos (show(D.int v1).i≤0 from aL)];refine⟨_,c2,?_⟩;rw[if_pos (show(D.int v1).i≤0 from aL)];show D.bool (decide (v2≤0))=_;rw[decide_eq_true gq]
end Rm
