/-
  Shared texts of this claim.
-/
import Derived.Test.YtibbcfbmjlehcaaGreatDoorNAQ
set_option linter.defProp false
set_option linter.unusedSimpArgs false
set_option linter.unusedVariables false
noncomputable section
open Go.IntKind (i64)
namespace Rm
open Go Go.Proofs Cx
def Dl (f:File)(i part:Int):Bool:=decide (i=0)||decide ((ff f i).part=part)
def ahn (f:File)(i part:Int)(h:i=0\/(0<=i/\i<f.signs.length)):ah T 132 [ct f,.int i,.int part] (.bool (Dl f i part)):=by
 refine zyw 147 ayL ?_;unfold Dl;by_cases h0:i=0
 .simp[Oz,h0]
 .obtain⟨h1,h2⟩:=h.resolve_left h0;have h3:i.toNat<f.signs.length:=by omega
  simp[Oz,h0,h1,h2,h3,ff]
def I8 (f:File)(i:Int)(kinds:List Int):Bool:=wi (ff f i).for_ 0 (i-1)&&(Dl f (ff f i).for_ (ff f i).part&&hasB kinds (ff f (ff f i).for_).kind)
def avg (f:File)(i:Int)(kinds:List Int)(h:0<=i/\i<f.signs.length)(hl:f.signs.length<=100000)(hk:kinds.length<=100):ah T 131 [ct f,.int i,ints kinds] (.bool (I8 f i kinds)):=by
 refine zyw 146 ayG ?_;have h1:i.toNat<f.signs.length:=by omega
 have hw:i64.wrap (i-1)=i-1:=aQ (by omega);have hs:ff f i=f.signs[i.toNat]:=by simp[ff,h1]
 unfold I8;rw[hs];simp[XN,h,h1,hw];refine⟨_,fb _ _ _,?_⟩;cases hb:wi f.signs[i.toNat].for_ 0 (i-1)
 .simp
 .have bO:0<=f.signs[i.toNat].for_/\f.signs[i.toNat].for_<f.signs.length:=by
   simp[wi] at hb;omega
  have h2:f.signs[i.toNat].for_.toNat<f.signs.length:=by omega
  have dX:ff f f.signs[i.toNat].for_=f.signs[f.signs[i.toNat].for_.toNat]:=by simp[ff,h2]
  rw[dX];simp;refine⟨_,ahn f _ _ (.inr bO),?_⟩;cases cJ:Dl f f.signs[i.toNat].for_ f.signs[i.toNat].part
  .simp
  simp[bO,h2];exact xq kinds _ (by omega)
def Q5 (r:Realm)(b:Bill)(s:Sign)(B:List Int->Bool):Bool:=
 if s.kind=0 then((((decide (s.who=b.drawer)&&decide (s.sum=0))&&decide (bW .or .i64 s.flags 1=1))&&decide (s.part=0))&&decide (s.day=b.day))&&decide (s.city=b.city)
 else if s.kind=1 then decide (s.who=b.drawee)&&(wi s.sum 1 1099511627776&&decide (s.flags=0))
 else if s.kind=2 then((wi s.to (-1) ((r.firms.length:Int)-1)&&decide (s.sum=0))&&wi s.flags 0 7)&&decide (bW .and .i64 s.flags 6≠6)
 else if s.kind=3 then(decide (s.sum=0)&&decide (s.flags=0))&&B [0,1,2,4]
 else if s.kind=4 then((wi s.sum 1 1099511627776&&decide (s.flags=0))&&decide (s.who≠b.drawee))&&B [0,2]
 else false
def KP (r:Realm)(b:Bill)(i:Nat)(s:Sign)(B:List Int->Bool):Bool:=
 if ¬(i=0↔s.kind=0)\/(¬s.kind=2/\¬s.to=-1) then false
 else if(¬s.kind=3/\¬s.kind=4)/\¬s.for_=-1 then false
 else Q5 r b s B
def yg (r:Realm)(f:File)(i:Nat):Bool:=KP r f.bill i (f.signs.getD i default) (I8 f i)
def avi (r:Realm)(hr:Small r)(f:File)(i:Nat)(h:i<f.signs.length)(hl:f.signs.length<=100000):ah T 90 [aP r,ct f,.int i] (.bool (yg r f i)):=by
 refine zyw 145 ayI ?_;have ly:=hr.firms;have hw:i64.wrap ((r.firms.length:Int)-1)=(r.firms.length:Int)-1:=aQ (by omega);have hs:f.signs.getD i default=f.signs[i]:=by simp[h]
 have Rx:=λks hk=>avg f i ks ⟨by omega,by omega⟩ hl hk;unfold yg;rw[hs];generalize hB:I8 f i=B at Rx ⊢;generalize hX:KP r f.bill i f.signs[i] B=X;simp[XP,h];generalize f.signs[i]=s at*;unfold KP at hX;by_cases h1:¬(i=0↔s.kind=0)\/(¬s.kind=2/\¬s.to=-1)
 .rw[if_pos h1] at hX ⊢;exact hX.symm
 rw[if_neg h1] at hX ⊢;by_cases h2:(¬s.kind=3/\¬s.kind=4)/\¬s.for_=-1
 .rw[if_pos h2] at hX ⊢;exact hX.symm
 rw[if_neg h2] at hX ⊢;refine⟨_,fb _ _ _,?_⟩;unfold Q5 at hX;by_cases k0:s.kind=0
 .rw[if_pos k0] at hX ⊢;rw[<-hX];by_cases a:(((s.who=f.bill.drawer/\s.sum=0)/\bW BinOp.or IntKind.i64 s.flags 1=1)/\s.part=0)/\s.day=f.bill.day
  .simp[a]
  .rw[if_neg a]
   congr 1
   rw[eq_comm,Z5];intro e;simp at e;exact a e.1
 rw[if_neg k0] at hX ⊢;by_cases k1:s.kind=1
 .rw[if_pos k1] at hX ⊢;rw[<-hX];by_cases a:s.who=f.bill.drawee<;>cases wi s.sum 1 1099511627776<;>simp[a]
 rw[if_neg k1] at hX ⊢;by_cases k2:s.kind=2
 .rw[if_pos k2] at hX ⊢;rw[<-hX,hw];refine⟨_,fb _ _ _,?_⟩;cases wi s.to (-1) ((r.firms.length:Int)-1)
  .simp
  by_cases a:s.sum=0
  case neg=>simp[a]
  simp[a];refine⟨_,fb _ _ _,?_⟩;cases wi s.flags 0 7<;>simp
 rw[if_neg k2] at hX ⊢;by_cases k3:s.kind=3
 .rw[if_pos k3] at hX ⊢;rw[<-hX];by_cases a:s.sum=0/\s.flags=0
  case neg=>
   rw[if_neg a,if_neg a]
   congr 1
   rw[eq_comm,Z5];intro e;simp at e;exact a e.1
  rw[if_pos a];refine⟨_,Rx [0,1,2,4] (by decide),?_⟩;simp[a]
 rw[if_neg k3] at hX ⊢;by_cases k4:s.kind=4
 .rw[if_pos k4] at hX ⊢;rw[<-hX];cases wi s.sum 1 1099511627776
  .simp
  by_cases a:s.flags=0/\¬s.who=f.bill.drawee
  case neg=>
   simp[a]
  simp[a];exact Rx [0,2] (by decide)
 rw[if_neg k4] at hX ⊢;exact hX.symm
def oe (f:File)(i:Nat):Int:=if i=0 then f.bill.day else(f.signs.getD (i-1) default).day
def Iv (f:File)(i:Nat)(s:Sign):Bool:=(f.signs.take i).any λx=>(decide (s.kind=1)&&decide (x.kind=1))&&decide (x.part=s.part)
def Dj (r:Realm)(f:File)(i:Nat):Int:=
 let s:=f.signs.getD i default
 if wi s.part 0 (f.bill.parts-1)=false then 15
 else if aC s.who r.firms.length=false\/aC s.city r.cities.length=false then 1
 else if wi s.day (oe f i) 100000=false\/(i=0/\¬s.day=oe f i) then 13
 else if yg r f i=false then 14
 else if Iv f i s=true then 5 else 0
def ahm (r:Realm)(hr:Small r)(f:File)(hp:1<=f.bill.parts/\f.bill.parts<=4)(i:Nat)(h:i<f.signs.length)(hl:f.signs.length<=100000):ah T 52 [aP r,ct f,.int i] (.int (Dj r f i)):=by
 refine zyw 143 ayK ?_;have ly:=hr.firms;have RD:=hr.cities;have jc:i64.wrap ((r.firms.length:Int)-1)=(r.firms.length:Int)-1:=aQ (by omega);have da:i64.wrap ((r.cities.length:Int)-1)=(r.cities.length:Int)-1:=aQ (by omega);have SO:i64.wrap (f.bill.parts-1)=f.bill.parts-1:=aQ (by omega);have hs:f.signs.getD i default=f.signs[i]:=by simp[h]
 generalize hX:Dj r f i=X;unfold Dj at hX;simp only[hs] at hX;simp[XR,h,jc,da,SO];refine⟨_,fb _ _ _,?_⟩;cases a1:wi f.signs[i].part 0 (f.bill.parts-1)
 .simpa [a1] using hX
 simp[a1] at hX ⊢;refine⟨_,fb _ _ _,?_⟩;rw[oF] at hX;cases a2:wi f.signs[i].who 0 ((r.firms.length:Int)-1)
 .simpa [a2] using hX
 simp[a2] at hX ⊢;refine⟨_,fb _ _ _,?_⟩;rw[oF] at hX;cases a3:wi f.signs[i].city 0 ((r.cities.length:Int)-1)
 .simpa [a3] using hX
 simp[a3] at hX ⊢;refine⟨by omega,?_⟩;have yE:min i f.signs.length=i:=by omega
 refine aL.forRounds i (λk=>[.int (oe f k),.bool ((f.signs.take k).any λx=>(decide (f.signs[i].kind=1)&&decide (x.kind=1))&&decide (x.part=f.signs[i].part)),.int k]) (λ_=>[]) ?_ (λk hk=>?_) ?_
 .simp[oe]
 .have hw:=bt hk (by omega);have bf:k<f.signs.length:=by omega
  have hf:oe f (k+1)=f.signs[k].day:=by simp[oe,bf]
  rw[iQ bf,List.any_append];generalize ((f.signs.take k).any λx=>(decide (f.signs[i].kind=1)&&decide (x.kind=1))&&decide (x.part=f.signs[i].part))=A;simp[aiv,NB,hk,bf,h,hw,hf,yE];cases A
  .by_cases e1:f.signs[i].kind=1<;>by_cases e2:f.signs[k].kind=1<;>simp[e1,e2]
  .simp
 .have ht:Iv f i f.signs[i]=true↔∃x,x∈List.take i f.signs/\(f.signs[i].kind=1/\x.kind=1)/\x.part=f.signs[i].part:=by simp[Iv]
  simp[aiv,NB,yE,h];refine⟨_,fb _ _ _,?_⟩;by_cases a4:wi f.signs[i].day (oe f i) 100000=false\/(i=0/\¬f.signs[i].day=oe f i)
  .rw[if_pos a4] at hX;rw[if_pos (by simpa using a4)];exact hX
  rw[if_neg a4] at hX;rw[if_neg (by simpa using a4)];refine⟨_,avi r hr f i h hl,?_⟩;cases a5:yg r f i
  .simpa [a5] using hX
  simp[a5] at hX;simp only[ami,if_true];rw[<-hX];by_cases a6:Iv f i f.signs[i]=true
  .rw[if_pos a6,if_pos (ht.1 a6)]
  .rw[if_neg a6,if_neg (λx=>a6 (ht.2 x))]
def IY (a:Act)(to at_ own:Bool):Bool:=
 if a.kind=0\/a.kind=1\/a.kind=2 then(to&&decide (a.at_=-1))&&decide (a.sum=0)
 else if a.kind=3\/a.kind=4\/a.kind=5 then((to&&decide (a.at_=-1))&&wi a.sum 0 1099511627776)&&wi a.form 0 1
 else if a.kind=6 then(to&&own)&&wi a.sum 1 1099511627776
 else if a.kind=9 then(decide (a.to=-1)&&own)&&decide (a.sum=0)
 else(decide (a.to=-1)&&at_)&&decide (a.sum=0)
def D1 (f:File)(a:Act):Bool:=aC a.at_ f.signs.length&&Dl f a.at_ a.part
def UJ (f:File)(a:Act):Bool:=D1 f a&&decide ((ff f a.at_).who=a.who)
def vw (r:Realm)(f:File)(a:Act):Bool:=
 if aC a.who r.firms.length=false\/(¬a.kind=4/\¬a.form=0) then false else IY a (aC a.to r.firms.length) (D1 f a) (UJ f a)
def ave (r:Realm)(hr:Small r)(f:File)(a:Act)(hl:f.signs.length<=100000):ah T 91 [aP r,ct f,kj a] (.bool (vw r f a)):=by
 refine zyw 149 ayE ?_;have ly:=hr.firms;have jc:i64.wrap ((r.firms.length:Int)-1)=(r.firms.length:Int)-1:=aQ (by omega);have da:i64.wrap ((f.signs.length:Int)-1)=(f.signs.length:Int)-1:=aQ (by omega);generalize hX:vw r f a=X;unfold vw UJ D1 at hX;simp[XL,jc,da];refine⟨_,fb _ _ _,?_⟩;rw[<-oF];have yP:=fb a.to 0 ((r.firms.length:Int)-1);have Gb:=fb a.who 0 ((r.firms.length:Int)-1);rw[<-oF] at yP Gb;generalize aC a.to r.firms.length=tt at*;generalize aC a.who r.firms.length=ww at*;have fin:∀at_ own:Bool,(if ww=false\/(¬a.kind=4/\¬a.form=0) then false else IY a tt at_ own)=X->
  if ww=false\/(¬a.kind=4/\¬a.form=0) then X=false
  else if a.kind=0\/a.kind=1\/a.kind=2 then(if tt=true/\a.at_=-1 then D.bool (decide (a.sum=0)) else D.bool false)=D.bool X
  else if a.kind=3\/a.kind=5\/a.kind=4 then
        if tt=true/\a.at_=-1 then
         ∃d,ah (eO tab ext) 53 [D.int a.sum,D.int 0,D.int 1099511627776] d/\
          if(tt=true/\a.at_=-1)/\d.b=true then
             ∃EA,ah (eO tab ext) 53 [D.int a.form,D.int 0,D.int 1] EA/\(if(tt=true/\a.at_=-1)/\d.b=true then EA else D.bool false)=D.bool X
          else(if(tt=true/\a.at_=-1)/\d.b=true then D.none else D.bool false)=D.bool X
        else D.bool false=D.bool X
  else if a.kind=6 then
        if tt=true/\own=true then ∃EA,ah (eO tab ext) 53 [D.int a.sum,D.int 1,D.int 1099511627776] EA/\(if tt=true/\own=true then EA else D.bool false)=D.bool X
        else(if tt=true/\own=true then D.none else D.bool false)=D.bool X
  else if a.kind=9 then(if a.to=-1/\own=true then D.bool (decide (a.sum=0)) else D.bool false)=D.bool X
  else(if a.to=-1/\at_=true then D.bool (decide (a.sum=0)) else D.bool false)=D.bool X:=by
  intro at_ own hX;by_cases p:ww=false\/(¬a.kind=4/\¬a.form=0)
  .rw[if_pos p] at hX ⊢;exact hX.symm
  rw[if_neg p] at hX ⊢;unfold IY at hX;by_cases k0:a.kind=0\/a.kind=1\/a.kind=2
  .rw[if_pos k0] at hX ⊢;rw[<-hX];by_cases e:tt=true/\a.at_=-1
   .simp[e]
   .rw[if_neg e];cases tt<;>simp at e ⊢;simp[e]
  rw[if_neg k0] at hX ⊢;by_cases k3:a.kind=3\/a.kind=4\/a.kind=5
  .rw[if_pos k3] at hX;rw[if_pos (by omega),<-hX];by_cases e:tt=true/\a.at_=-1
   .rw[if_pos e];refine⟨_,fb _ _ _,?_⟩;cases wi a.sum 0 1099511627776
    .simp
    .simp[e];exact fb _ _ _
   .rw[if_neg e];cases tt<;>simp at e ⊢;simp[e]
  rw[if_neg k3] at hX;rw[if_neg (by omega)];by_cases k6:a.kind=6
  .rw[if_pos k6] at hX ⊢;rw[<-hX];by_cases e:tt=true/\own=true
   .rw[if_pos e];refine⟨_,fb _ _ _,?_⟩;simp[e]
   .rw[if_neg e,if_neg e];cases tt<;>cases own<;>simp at e ⊢
  rw[if_neg k6] at hX ⊢;by_cases k9:a.kind=9
  .rw[if_pos k9] at hX ⊢;rw[<-hX];cases own<;>by_cases e:a.to=-1<;>simp[e]
  rw[if_neg k9] at hX ⊢;rw[<-hX];cases at_<;>by_cases e:a.to=-1<;>simp[e]
 cases h1:aC a.at_ f.signs.length
 .have hf:=fin false false (by simpa [h1] using hX);simp at hf ⊢;refine⟨_,yP,_,Gb,?_⟩;simpa using hf
 have cA:0<=a.at_/\a.at_<f.signs.length:=by simpa [aC] using h1
 have h2:a.at_.toNat<f.signs.length:=by omega
 have hs:ff f a.at_=f.signs[a.at_.toNat]:=by simp[ff,h2]
 simp[cA];refine⟨_,ahn f _ _ (.inr cA),_,yP,_,Gb,?_⟩;rw[h1,hs] at hX;have hf:=fin _ _ hX;cases h3:Dl f a.at_ a.part
 .rw[h3] at hf;simpa using hf
 .rw[h3] at hf;simpa [h2] using hf
def Mk (a b:Int):(if a<b then b else a)=max a b:=by split<;>omega
def Tx (a b:Int):(if a<b then D.int b else D.int a)=D.int (max a b):=by
 rw[<-Mk];split<;>rfl
def Tf (f:File)(i:Nat)(a:Act):Int:=
 let x:=if a.at_=-1 then f.bill.day else max f.bill.day (ff f a.at_).day
 if i=0 then x else max x (f.acts.getD (i-1) default).day
def vx (r:Realm)(f:File)(i:Nat):Int:=
 let a:=f.acts.getD i default
 if wi a.part 0 (f.bill.parts-1)=false then 15
 else if aC a.city r.cities.length=false\/wi a.kind 0 9=false then 1
 else if vw r f a=false then 14
 else if wi a.day (Tf f i a) 100000=false then 13 else 0
def aaE {r:Realm}{f:File}{a:Act}(h:vw r f a=true)(hn:¬a.at_=-1):0<=a.at_/\a.at_<f.signs.length:=by
 unfold vw at h;split at h
 .cases h
 have key:D1 f a=true->0<=a.at_/\a.at_<f.signs.length:=λe=>by
  unfold D1 at e;simp only[ao] at e;simpa [aC] using e.1
 unfold IY UJ at h
 repeat' split at h
 all_goals simp only[ao,decide_eq_true_eq] at h
 .exact absurd h.1.2 hn
 .exact absurd h.1.1.2 hn
 .exact key h.1.2.1
 .exact key h.1.2.1
 .exact key h.1.2
def avf (r:Realm)(hr:Small r)(f:File)(hp:1<=f.bill.parts/\f.bill.parts<=4)(hl:f.signs.length<=100000)(yA:f.acts.length<=100000):ah T 54 [aP r,ct f] (.int (fC f.acts.length (vx r f))):=by
 refine zyw 148 ayF ?_;have RD:=hr.cities;have da:i64.wrap ((r.cities.length:Int)-1)=(r.cities.length:Int)-1:=aQ (by omega);have SO:i64.wrap (f.bill.parts-1)=f.bill.parts-1:=aQ (by omega);simp[XM];refine qw f.acts.length (vx r f) (λk=>[.int 0,.int k]) (λ_=>[]) ?_ (λk hk ho=>?_) (λk hk ho hb=>?_) (λhj=>?_)
 .simp
 case' refine_2=>have hb:vx r f k=vx r f k:=rfl
 case' refine_3=>rw[hb]
 case refine_4=>simp[ait,Nz,hj]
 all_goals
  have hw:=bt hk (by omega);have hs:f.acts.getD k default=f.acts[k]:=by simp[hk]
  clear hb;generalize hX:vx r f k=X at*;unfold vx at hX;simp only[hs] at hX;simp[ait,Nz,hk,da,SO,hw];refine⟨_,fb _ _ _,?_⟩;cases a1:wi f.acts[k].part 0 (f.bill.parts-1)
  .simp[a1] at hX ⊢
   first|exact hX|(exfalso;omega)
  simp[a1] at hX ⊢;refine⟨_,fb _ _ _,?_⟩;rw[oF] at hX;cases a2:wi f.acts[k].city 0 ((r.cities.length:Int)-1)
  .simp[a2] at hX ⊢
   first|exact hX|(exfalso;omega)
  simp[a2] at hX ⊢;refine⟨_,fb _ _ _,?_⟩;cases a3:wi f.acts[k].kind 0 9
  .simp[a3] at hX ⊢
   first|exact hX|(exfalso;omega)
  simp[a3] at hX ⊢;refine⟨_,ave r hr f f.acts[k] hl,?_⟩;cases a4:vw r f f.acts[k]
  .simp[a4] at hX ⊢
   first|exact hX|(exfalso;omega)
  simp[a4] at hX ⊢;unfold Tf at hX;by_cases k0:k=0
  .subst k0;by_cases e1:f.acts[0].at_=-1
   .simp[e1] at hX;simp[e1];refine⟨_,fb _ _ _,?_⟩;split at hX
    .rename_i e;simp[e]
     first|exact hX|(exfalso;omega)
    .rename_i e
     first|(exfalso;omega)|simp[e]
   .obtain⟨h5,h6⟩:=aaE a4 e1;have h7:f.acts[0].at_.toNat<f.signs.length:=by omega
    have h8:ff f f.acts[0].at_=f.signs[f.acts[0].at_.toNat]:=by simp[ff,h7]
    simp[e1,h8] at hX;simp[e1,h5,h6,h7,Tx,Mk];refine⟨_,fb _ _ _,?_⟩;split at hX
    .rename_i e;simp[e]
     first|exact hX|(exfalso;omega)
    .rename_i e
     first|(exfalso;omega)|simp[e]
  .have bC:i64.wrap ((k:Int)-1)=(k:Int)-1:=aQ (by omega);have cG:((k:Int)-1).toNat=k-1:=by omega
   have mP:k-1<f.acts.length:=by omega
   have B2:0<k:=by omega
   by_cases e1:f.acts[k].at_=-1
   .simp[k0,e1,mP] at hX;simp[e1,B2,bC,cG,mP,Tx,Mk];refine⟨by omega,_,fb _ _ _,?_⟩;split at hX
    .rename_i e;simp[e]
     first|exact hX|(exfalso;omega)
    .rename_i e
     first|(exfalso;omega)|simp[e]
   .obtain⟨h5,h6⟩:=aaE a4 e1;have h7:f.acts[k].at_.toNat<f.signs.length:=by omega
    have h8:ff f f.acts[k].at_=f.signs[f.acts[k].at_.toNat]:=by simp[ff,h7]
    simp[k0,e1,mP,h8] at hX;simp[e1,B2,bC,cG,mP,h5,h6,h7,Tx,Mk];refine⟨by omega,_,fb _ _ _,?_⟩;split at hX
    .rename_i e;simp[e]
     first|exact hX|(exfalso;omega)
    .rename_i e
     first|(exfalso;omega)|simp[e]
def qV (a b:Int):Int:=if a<b then-1 else if b<a then 1 else 0
def aes (a:Int):ah T 133 [.int a] (.bool false):=by
 refine zyw 152 ayk ?_;simp[Xs]
def Z8 (a b:Int):ah T 93 [.int a,.int b] (.int (qV a b)):=by
 refine zyw 151 ayi ?_;simp[Xq];refine⟨_,aes a,_,aes b,?_⟩;unfold qV;by_cases h1:a<b
 .simp[h1]
 by_cases h2:b<a<;>simp[h1,h2]
def akn (l:List Int)(hl:l.length<=100000):ah T 92 [ints l] (.int (fC l.length λk=>l.getD k 0)):=by
 refine zyw 153 ayj ?_;simp[Xr];refine qw l.length (λk=>l.getD k 0) (λk=>[.int 0,.int k]) (λ_=>[]) ?_ (λk hk ho=>?_) (λk hk ho hb=>?_) (λhj=>?_)
 .simp
 .have hw:=bt hk (by omega);have hx:l[k]=0:=by simpa [hk] using ho
  simp[Vy,Hc,hk,hx,hw]
 .have hx:¬l[k]=0:=by simpa [hk] using ho
  simp only[aF] at hb ⊢;rw[hb];simp[Vy,Hc,hk,hx]
 .simp only[aF] at hj ⊢;rw[hj];simp[Vy,Hc]
def or2 (a b:Int):(fC 2 λk=>[a,b].getD k 0)=if a=0 then b else a:=by
 have e:List.range 2=[0,1]:=rfl;unfold fC;rw[e];by_cases ha:a=0<;>by_cases hb:b=0<;>simp[ha,hb]
def Ak (x y:Fact):Prop:=x.at_<y.at_\/(x.at_=y.at_/\x.kind<y.kind)
instance (x y:Fact):Decidable (Ak x y):=by unfold Ak;infer_instance
def akC (x y:Fact):0<=(if qV x.at_ y.at_=0 then qV x.kind y.kind else qV x.at_ y.at_)↔¬Ak x y:=by
 unfold qV Ak
 repeat' split
 all_goals omega
def yf (f:File)(i:Nat):Int:=
 let x:=f.facts.getD i default
 if wi x.kind 0 4=false then 1 else if aC x.at_ f.signs.length=false then 1 else if wi x.n 0 1=false then 1
 else if i=0 then 0 else if Ak (f.facts.getD (i-1) default) x then 0 else 5
def avh (f:File)(hl:f.signs.length<=100000)(hlf:f.facts.length<=100000):ah T 55 [ct f] (.int (fC f.facts.length (yf f))):=by
 refine zyw 150 ayH ?_;have da:i64.wrap ((f.signs.length:Int)-1)=(f.signs.length:Int)-1:=aQ (by omega);simp[XO];refine qw f.facts.length (yf f) (λk=>[.int 0,.int k]) (λ_=>[]) ?_ (λk hk ho=>?_) (λk hk ho hb=>?_) (λhj=>?_)
 .simp
 case' refine_2=>have hb:yf f k=yf f k:=rfl
 case' refine_3=>rw[hb]
 case refine_4=>simp[aiu,NA,hj]
 all_goals
  have hw:=bt hk (by omega);have hs:f.facts.getD k default=f.facts[k]:=by simp[hk]
  clear hb;generalize hX:yf f k=X at*;unfold yf at hX;simp only[hs] at hX;simp[aiu,NA,hk,da,hw];refine⟨_,fb _ _ _,?_⟩;cases a1:wi f.facts[k].kind 0 4
  .simp[a1] at hX ⊢
   first|exact hX|(exfalso;omega)
  simp[a1] at hX ⊢;refine⟨_,fb _ _ _,?_⟩;rw[oF] at hX;cases a2:wi f.facts[k].at_ 0 ((f.signs.length:Int)-1)
  .simp[a2] at hX ⊢
   first|exact hX|(exfalso;omega)
  simp[a2] at hX ⊢;refine⟨_,fb _ _ _,?_⟩;cases a3:wi f.facts[k].n 0 1
  .simp[a3] at hX ⊢
   first|exact hX|(exfalso;omega)
  simp[a3] at hX ⊢;by_cases k0:k=0
  .subst k0;simp at hX ⊢
   first|(exfalso;omega)|done
  .have bC:i64.wrap ((k:Int)-1)=(k:Int)-1:=aQ (by omega);have cG:((k:Int)-1).toNat=k-1:=by omega
   have mP:k-1<f.facts.length:=by omega
   simp[k0,mP] at hX;simp[k0,bC,cG,mP];refine⟨by omega,_,Z8 _ _,_,Z8 _ _,?_⟩;have ho:=akn [qV f.facts[k-1].at_ f.facts[k].at_,qV f.facts[k-1].kind f.facts[k].kind] (by simp);simp only[qG,Ae] at ho;rw[or2] at ho;refine⟨_,ho,?_⟩;have ha:=akC f.facts[k-1] f.facts[k];generalize (if qV f.facts[k-1].at_ f.facts[k].at_=0 then qV f.facts[k-1].kind f.facts[k].kind else qV f.facts[k-1].at_ f.facts[k].at_)=n at*;clear ho;by_cases e:Ak f.facts[k-1] f.facts[k]
   .have hn:¬0<=n:=λh=>ha.1 h e;simp[e] at hX;simp[hn]
    first|done|(exfalso;omega)
   .have hn:0<=n:=ha.2 e;simp[e] at hX;simp[hn]
    first|exact hX|(exfalso;omega)
def xL (f:File)(i:Nat):Int:=
 let x:=f.alters.getD i default
 if wi x.at_ ((if i=0 then 0 else(f.alters.getD (i-1) default).at_)+1) f.signs.length=false then 1 else if wi x.sum 1 1099511627776=false then 3 else 0
structure PaperOK (r:Realm) (f:File):Prop where
 full:(f.signs.length<=40/\f.alters.length<=4)/\f.acts.length<=100/\f.facts.length<=200
 bill:BillOK r f.bill
 ne:f.signs≠[]
 signs:fC f.signs.length (Dj r f)=0
 alters:fC f.alters.length (xL f)=0
 acts:fC f.acts.length (vx r f)=0
 facts:fC f.facts.length (yf f)=0
def avc (r:Realm)(hs:Small r)(f:File)(Fa:f.OK):∃d,ah T 24 [aP r,ct f] d/\qE (PaperOK r f) d:=by
 refine ah.ex_of_tree rfl akP ayC ?_;simp[XJ];by_cases hf:(f.signs.length<=40/\f.alters.length<=4)/\f.acts.length<=100/\f.facts.length<=200
 case neg=>
  rw[if_pos (by omega)];exact .no (λh=>hf h.full) (by decide)
 rw[if_neg (by omega)];obtain⟨d,hb,e,rfl,he⟩:=aAC r hs f.bill;refine⟨_,hb,?_⟩;by_cases e0:e=0
 case neg=>
  simp[e0];exact .no (λh=>e0 (he.2 h.bill)) e0
 have Ld:=he.1 e0;simp[e0];by_cases au:f.signs=[]
 .simp[au];exact .no (λh=>h.ne au) (by decide)
 simp[au];refine qw f.signs.length (Dj r f) (λk=>[.int 0,.int k]) (λ_=>[]) ?_ (λk hk ho=>?_) (λk hk ho hb=>?_) (λhj=>?_)
 .simp
 .have hw:=bt hk (by omega);simp[VB,He,hk,hw];refine⟨_,ahm r hs f Ld.parts k hk (by omega),?_⟩;simp[ho]
 .simp[VB,He,hk];refine⟨_,ahm r hs f Ld.parts k hk (by omega),?_⟩;simp[ho];exact .no (λh=>ho (by rw[<-hb];exact h.signs)) ho
 simp[VB,He];have lF:∀k,k<f.alters.length->(∀j,j<k->xL f j=0)->i64.wrap ((if k=0 then 0 else(f.alters.getD (k-1) default).at_)+1)=(if k=0 then 0 else(f.alters.getD (k-1) default).at_)+1:=by
  intro k hk hj;refine aQ ?_;by_cases k0:k=0
  .rw[if_pos k0];omega
  .rw[if_neg k0];have h1:=hj (k-1) (by omega);have bC:k-1<f.alters.length:=by omega
   have h2:=(Fa.2.2.1.2 _ (bV bC)).1;have h3:f.alters.getD (k-1) default=f.alters[k-1]:=by simp[bC]
   unfold xL at h1;rw[h3] at h1 ⊢;simp only at h1;generalize (if k-1=0 then(0:Int) else(f.alters.getD (k-1-1) default).at_)=L0 at h1;split at h1
   .cases h1
   .rename_i hh;simp[wi] at hh;unfold aZ at h2;omega
 refine aL.scan f.alters.length (λk=>xL f k=0) (λk=>[.int 0,.int (if k=0 then 0 else(f.alters.getD (k-1) default).at_),.int k]) (λ_=>[]) ?_ (λk hk sV ho=>?_) (λk hk sV ho=>?_) (λyz=>?_)
 .simp
 .have hw:=bt hk (by omega);have hl:=lF k hk sV;generalize hL:(if k=0 then 0 else(f.alters.getD (k-1) default).at_)=L at*;have hs:f.alters.getD k default=f.alters[k]:=by simp[hk]
  unfold xL at ho;simp only[hs,hL] at ho;simp[VC,Hf,hk,hl];refine⟨_,fb _ _ _,?_⟩;cases a1:wi f.alters[k].at_ (L+1) f.signs.length
  .simp[a1] at ho
  simp[a1] at ho ⊢;refine⟨_,fb _ _ _,?_⟩;simp[ho,hw]
 .have hl:=lF k hk sV;have Fw:=QZ hk sV ho;generalize hL:(if k=0 then 0 else(f.alters.getD (k-1) default).at_)=L at*;have hs:f.alters.getD k default=f.alters[k]:=by simp[hk]
  have bad:∀e:Int,e≠0->qE (PaperOK r f) (.int e):=λe h=>.no (λh=>ho (by rw[<-Fw];exact h.alters)) h;unfold xL at ho;simp only[hs,hL] at ho;simp[VC,Hf,hk,hl];refine⟨_,fb _ _ _,?_⟩;cases a1:wi f.alters[k].at_ (L+1) f.signs.length
  .simp;exact bad 1 (by decide)
  simp[a1] at ho ⊢;refine⟨_,fb _ _ _,?_⟩;simp[ho];exact bad 3 (by decide)
 have yz:=Q3 yz;simp[VC,Hf];refine⟨_,avf r hs f Ld.parts (by omega) (by omega),?_⟩;by_cases e3:fC f.acts.length (vx r f)=0
 case neg=>
  simp[e3];exact .no (λh=>e3 h.acts) e3
 simp[e3];refine⟨_,avh f (by omega) (by omega),?_⟩;exact⟨_,rfl,λh=>⟨hf,Ld,au,hj,yz,e3,h⟩,λh=>h.facts⟩
structure SignOK (r:Realm) (f:File) (i:Nat) (s:Sign):Prop where
 part:0<=s.part/\s.part<=f.bill.parts-1
 who:0<=s.who/\s.who<r.firms.length
 city:0<=s.city/\s.city<r.cities.length
 day:oe f i<=s.day/\s.day<=100000
 fits:yg r f i=true
 once:Iv f i s=false
def PaperOK.sign {r:Realm}{f:File}(h:PaperOK r f)(i:Nat)(hi:i<f.signs.length):SignOK r f i f.signs[i]:=by
 have h1:=QY h.signs i hi;have hs:f.signs.getD i default=f.signs[i]:=by simp[hi]
 unfold Dj at h1;simp only[hs] at h1;split at h1
 .cases h1
 rename_i a1;split at h1
 .cases h1
 rename_i a2;split at h1
 .cases h1
 rename_i a3;split at h1
 .cases h1
 rename_i a4;split at h1
 .cases h1
 rename_i a5;simp[wi,aC] at a1 a2 a3;exact⟨⟨by omega,by omega⟩,⟨by omega,by omega⟩,⟨by omega,by omega⟩,⟨by omega,by omega⟩,by simpa using a4,by simpa using a5⟩
structure IE (r:Realm) (f:File) (i:Nat) (a:Act):Prop where
 part:0<=a.part/\a.part<=f.bill.parts-1
 city:0<=a.city/\a.city<r.cities.length
 kind:0<=a.kind/\a.kind<=9
 fits:vw r f a=true
 day:Tf f i a<=a.day/\a.day<=100000
def PaperOK.day {r:Realm}{f:File}(h:PaperOK r f):0<=f.bill.day/\f.bill.day<=100000:=by
 have:=h.bill.range;unfold zC at this;omega
def ab3 {r:Realm}{f:File}(h:PaperOK r f):∀i,i<f.signs.length->0<=oe f i
 |0,_=>by simp[oe];exact h.day.1
 |i+1,hi=>by
  have h1:=(h.sign i (by omega)).day.1;have h2:=ab3 h i (by omega);have e:oe f (i+1)=f.signs[i].day:=by simp[oe,show i<f.signs.length by omega]
  omega
def axf {r:Realm}{f:File}{i:Nat}(hi:i<f.signs.length)(h:yg r f i=true)(hk:f.signs[i].kind=1\/f.signs[i].kind=4):1<=f.signs[i].sum/\f.signs[i].sum<=1099511627776:=by
 have hs:f.signs.getD i default=f.signs[i]:=by simp[hi]
 unfold yg at h;rw[hs] at h;unfold KP at h;split at h
 .cases h
 split at h
 .cases h
 unfold Q5 at h;rcases hk with hk|hk
 .simp[hk,wi] at h;omega
 .simp[hk,wi] at h;omega
def PaperOK.sums {r:Realm}{f:File}(h:PaperOK r f):SumsOK f:=by
 have hr:=h.bill.range;unfold zC at hr;refine⟨by omega,by omega,λa ha=>?_,λs hs hk=>?_⟩
 .obtain⟨i,hi,rfl⟩:=fu ha;have h1:=QY h.alters i hi;have hs:f.alters.getD i default=f.alters[i]:=by simp[hi]
  unfold xL at h1;simp only[hs] at h1;generalize (if i=0 then(0:Int) else(f.alters.getD (i-1) default).at_)=L at h1;split at h1
  .cases h1
  split at h1
  .cases h1
  rename_i a1;simp[wi] at a1;omega
 .obtain⟨i,hi,rfl⟩:=fu hs;exact axf hi (h.sign i hi).fits hk
def Ix (fr to:Int)(u:Usance):Bool:=decide (u.fr=fr)&&decide (u.to=to)
def Iw (l:List Usance)(fr to:Int):Int×Int:=match l.find? (Ix fr to) with|some u=>(u.days,0)|none=>(0,4)
def akr (r:Realm)(fr to:Int)(hl:r.usances.length<=100000):ah T 89 [aP r,.int fr,.int to] (.tup [.int (Iw r.usances fr to).1,.int (Iw r.usances fr to).2]):=by
 refine .of_tree rfl aaT ajy ?_;simp[OB];unfold Iw;refine aL.scan r.usances.length (λk=>Ix fr to (r.usances.getD k default)=false) (λk=>[.int 0,.int 0,.int k]) (λ_=>[]) ?_ (λk hk hj ar=>?_) (λk hk hj ar=>?_) (λhj=>?_)
 .simp
 .have hw:=bt hk (by omega);have hn:¬(r.usances[k].fr=fr/\r.usances[k].to=to):=by simpa [Ix,hk] using ar
  simp[C5,wP,hk,hw,hn]
 .have ly:=BB hk (by simpa [hk] using ar) (λj bB=>by have:=hj j bB;simpa [show j<r.usances.length by omega] using this);have hc:r.usances[k].fr=fr/\r.usances[k].to=to:=by simpa [Ix,hk] using ar
  rw[ly];simp[C5,wP,hk,hc]
 .have ly:=EY (l:=r.usances) (p:=Ix fr to) (λj bB=>by have:=hj j bB;simpa [bB] using this);rw[ly];simp[C5,wP]
def I0 (d:Int)(t:Tenor):Int×Int:=((DV d t).choose,(DV d t).choose_spec.choose)
def aaF (d:Int)(t:Tenor):ah T 122 [.int d,pE t] (.tup [.int (I0 d t).1,.int (I0 d t).2]):=(DV d t).choose_spec.choose_spec
def xO (l:List Usance)(b:Bill)(seen:Int):Int×Int:=
 if b.tenor.kind=0 then(seen,0) else if b.tenor.kind=1 then I0 seen b.tenor else if b.tenor.kind=2 then I0 b.day b.tenor
 else if b.tenor.kind=4 then(i64.wrap (b.day+(Iw l b.city b.pay).1),(Iw l b.city b.pay).2) else(b.tenor.n,0)
def ak3 (r:Realm)(hr:RightD r)(b:Bill)(seen:Int):ah T 76 [aP r,dI b,.int seen] (.tup [.int (xO r.usances b seen).1,.int (xO r.usances b seen).2]):=by
 have SF:D.agg [D.int b.tenor.kind,D.int b.tenor.n,D.int b.tenor.unit]=pE b.tenor:=rfl;refine .of_tree rfl xN zO ?_;unfold xO;by_cases h0:b.tenor.kind=0
 .simp[oX,h0]
 by_cases h1:b.tenor.kind=1
 .have h:=aaF seen b.tenor;have cA:(b.tenor.kind=1)=True:=eq_true h1;simp[oX,h0,cA];exact⟨_,h,by simp⟩
 by_cases h2:b.tenor.kind=2
 .have h:=aaF b.day b.tenor;have gS:(b.tenor.kind=2)=True:=eq_true h2;simp[oX,h0,h1,gS];exact⟨_,h,by simp⟩
 by_cases h4:b.tenor.kind=4
 .have h:=akr r b.city b.pay (by have:=hr.small.us;omega);have om:(b.tenor.kind=4)=True:=eq_true h4;simp[oX,h0,h1,h2,om];exact⟨_,h,by simp⟩
 .simp[oX,h0,h1,h2,h4]
def L5 (r:Realm)(pay bS:Int)(x:Int×Int):Int×Int:=
 if x.2≠0 then(0,x.2) else if eD x.1=false\/100000<i64.wrap (x.1+bS) then(0,3) else lT r pay (i64.wrap (x.1+bS))
def vE (r:Realm)(b:Bill)(seen bS:Int):Int×Int:=
 if dv r≠0\/aC b.city r.cities.length=false\/aC b.pay r.cities.length=false\/eD b.day=false then(0,1)
 else if((b.tenor.kind<0\/5<=b.tenor.kind)\/b.tenor.unit<0)\/2<=b.tenor.unit then(0,1)
 else if((¬seen=-1/\eD seen=false)\/bS<0)\/20000<bS then(0,1)
 else if Di b.tenor=true/\seen=-1 then(0,4)
 else L5 r b.pay bS (xO r.usances b seen)
def aj5 (r:Realm)(hr:RightD r)(b:Bill)(seen bS:Int):ah T 37 [aP r,dI b,.int seen,.int bS] (.tup [.int (vE r b seen bS).1,.int (vE r b seen bS).2]):=by
 have SF:D.agg [D.int b.tenor.kind,D.int b.tenor.n,D.int b.tenor.unit]=pE b.tenor:=rfl;have ko:=NU r hr.small;obtain⟨G,hG⟩:∃G,G=vE r b seen bS:=⟨_,rfl⟩
 rw[<-hG];unfold vE at hG;refine .of_tree rfl Po YV ?_;simp[Is];refine⟨_,ko,?_⟩;by_cases h0:dv r=0
 case neg=>simp[h0] at hG ⊢;simp[hG]
 simp[h0] at hG ⊢;refine⟨_,Cl r b.city,?_⟩;cases h1:aC b.city r.cities.length
 .simp[h1] at hG ⊢;simp[hG]
 simp[h1] at hG ⊢;refine⟨_,Cl r b.pay,?_⟩;cases h2:aC b.pay r.cities.length
 .simp[h2] at hG ⊢;simp[hG]
 simp[h2] at hG ⊢;refine⟨_,wk b.day,?_⟩;cases h3:eD b.day
 .simp[h3] at hG ⊢;simp[hG]
 simp[h3] at hG ⊢;have hp:0<=b.pay/\b.pay<r.cities.length:=by simpa [aC] using h2
 by_cases h4:((b.tenor.kind<0\/5<=b.tenor.kind)\/b.tenor.unit<0)\/2<=b.tenor.unit
 .rw[if_pos h4] at hG ⊢;simp[hG]
 rw[if_neg h4] at hG ⊢;have fin:G=L5 r b.pay bS (xO r.usances b seen)->0<=bS->bS<=20000->∃d,ah T 76 [aP r,dI b,D.int seen] d/\
  if(d.tget 1).i=0 then ∃d1,ah T 74 [d.tget 0] d1/\(if d1.b=false\/100000<i64.wrap ((d.tget 0).i+bS) then 0=G.1/\3=G.2 else
        ∃d2,ah T 77 [aP r,D.int b.pay,D.int (i64.wrap ((d.tget 0).i+bS))] d2/\d2.tget 0=D.int G.1/\d2.tget 1=D.int G.2)
  else 0=G.1/\d.tget 1=D.int G.2:=by
  intro hG yu jQ;refine⟨_,ak3 r hr b seen,?_⟩;unfold L5 at hG;generalize xO r.usances b seen=B at*;obtain⟨n,e⟩:=B;by_cases he:e=0
  .simp[he] at hG ⊢;refine⟨_,wk n,?_⟩;cases hd:eD n
   .simp[hd] at hG ⊢;simp[hG]
   have gq:0<=n/\n<=100000:=by simpa [eD] using hd
   have hw:i64.wrap (n+bS)=n+bS:=aQ (by omega);simp[hd,hw] at hG ⊢;by_cases hle:100000<n+bS
   .rw[if_pos hle] at hG ⊢;simp[hG]
   .rw[if_neg hle] at hG ⊢;refine⟨_,WC r hr.halts b.pay (n+bS) hp hr.cities (by omega) (by omega),?_⟩;simp[hG]
  .simp[he] at hG ⊢;simp[hG]
 by_cases hs:seen=-1
 .simp[hs] at fin hG ⊢;by_cases h5:bS<0\/20000<bS
  .rw[if_pos h5] at hG ⊢;simp[hG]
  rw[if_neg h5] at hG ⊢;refine⟨_,DS b.tenor,?_⟩;cases h6:Di b.tenor
  .simp[h6] at hG ⊢;exact fin hG (by omega) (by omega)
  .simp[h6] at hG ⊢;simp[hG]
 .simp[hs] at fin hG ⊢;refine⟨_,wk seen,?_⟩;cases hk:eD seen
  .simp[hk] at hG ⊢;simp[hG]
  simp[hk] at hG ⊢;by_cases h5:bS<0\/20000<bS
  .rw[if_pos h5] at hG ⊢;simp[hG]
  rw[if_neg h5] at hG ⊢;exact⟨⟨_,DS b.tenor⟩,fin hG (by omega) (by omega)⟩
def QH {r:Realm}(hr:RightD r)(b:Bill)(seen bS:Int):nL r b seen bS=vE r b seen bS:=by
 have h:=(OP r hr b seen bS).det (aj5 r hr b seen bS);simp at h;exact Prod.ext h.1 h.2
instance (a b:Int):Decidable (aji a b):=by unfold aji;infer_instance
def axb {r:Realm}(hh:xu r)(city:Int){d:Int}(h0:0<=d)(hd:d<=100001):(lT r city d).2=0->0<=(lT r city d).1/\(lT r city d).1<=100000:=by
 unfold lT;generalize r.cities.getD city.toNat default=c;generalize gC r city=o;have key:∀(n:Nat) (d:Int),0<=d->d<=100001->(100002-d).toNat<=n->(tM r c o n d).2=0->0<=(tM r c o n d).1/\(tM r c o n d).1<=100000:=by
  intro n
  induction n with
  |zero=>intro d h0 h1 h2;omega
  |succ n ih=>
   intro e h1 h2 h3;have Cd:=WJ hh o (100002-e).toNat e h2;rw[ajb];change e<=j1 r o e/\j1 r o e<=100001 at Cd;generalize j1 r o e=x at*;have pQ:=afs (c:=c) (d:=x);by_cases he:(jz c x).2=0
   .obtain⟨g1,g2,g3⟩:=pQ he;rw[if_neg (by simp[he])];by_cases hy:(jz c x).1=x
    .rw[if_pos hy];intro _;have e1:((x,0):Int×Int).1=x:=rfl;omega
    .rw[if_neg hy];exact ih _ (by omega) (by omega) (by omega)
   .rw[if_pos he];intro h;cases h
 exact key _ d h0 hd (ba _)
def aug {r:Realm}(hr:RightD r)(forum:Int)(f:File)(day:Int):eJ r forum f day=-1\/(0<=eJ r forum f day/\eJ r forum f day<=100000):=by
 unfold eJ;by_cases au:(cr f day).signs=[]
 .rw[if_pos au];exact .inl rfl
 rw[if_neg au,QH hr];generalize sl (cr f day)=sn;generalize max (qe (ls r forum 6 (cr f day) day)) 0=g;by_cases he:(vE r f.bill sn g).2=0
 case neg=>rw[if_pos he];exact .inl rfl
 rw[if_neg (by simp[he])];right;unfold vE at he ⊢;split at he
 .cases he
 rename_i c1;rw[if_neg c1];split at he
 .cases he
 rename_i c2;rw[if_neg c2];split at he
 .cases he
 rename_i c3;rw[if_neg c3];split at he
 .cases he
 rename_i c4;rw[if_neg c4];generalize xO r.usances f.bill sn=B at*;unfold L5 at he ⊢;split at he
 .rename_i hb;exact absurd he hb
 rename_i c5;rw[if_neg c5];split at he
 .cases he
 rename_i c6;rw[if_neg c6];have hd:0<=B.1/\B.1<=100000:=by
  have:¬eD B.1=false:=λe=>c6 (.inl e);simpa [eD] using this
 have hw:i64.wrap (B.1+g)=B.1+g:=aQ (by omega);rw[hw] at he c6 ⊢;exact axb hr.halts f.bill.pay (by omega) (by omega) he
def apc {r:Realm}(h:dv r=0):II r/\xt r:=by
 unfold dv at h;rw[N3] at h;refine⟨λx hx=>?_,λg hg=>?_⟩
 .obtain⟨k,hk,rfl⟩:=fu hx;have h1:=h (dj (dF r) 200 (jM r)) (by simp);unfold dj at h1;split at h1
  .cases h1
  have h2:=Q0.1 h1 k (by simpa [dF] using hk);have h3:=(BC h2).2;simp[jM,aC,hk] at h3;omega
 .obtain⟨k,hk,rfl⟩:=fu hg;have h1:=h (rk r) (by simp);unfold rk at h1;split at h1
  .cases h1
  split at h1
  .rename_i h2;have h3:=(xK.1 h2) k hk;simp[vJ,aC,hk] at h3;omega
  .cases h1
def avm {r:Realm}{f:File}(G:Good r f)(hc:dv r=0)(hP:PaperOK r f)(forum day:Int):PayOK r (dZ r forum f day):=by
 have dC:=abO r forum f day;have vN:=G.few.signs;obtain⟨RK,rv⟩:=apc hc;have hS:=hP.sums.at_ day;have each:∀e,e∈uo r forum f day->(0<=e.firm/\e.firm<r.firms.length)/\0<=e.sum/\e.sum<=1099511627776:=by
  intro e he;unfold uo at he;obtain⟨k,hk,rfl⟩:=bZ.1 he;have bf:k<(cr f day).signs.length:=fS.1 hk;have h1:=ank (v:=kD r forum f day) hS k (by omega) (by show(k:Int)<((cr f day).signs.length:Int);omega);refine⟨?_,by omega,h1.2⟩;have hm:(cr f day).signs[k]∈f.signs:=(O5 _).subset (bV bf);obtain⟨i,hi,e⟩:=fu hm;have h2:=(hP.sign i hi).who;have h3:(mK (kD r forum f day) k).firm=((cr f day).signs[k]).who:=by
   show((cr f day).signs.getD (k:Int).toNat default).who=_;simp[bf]
  rw[h3,<-e];exact h2
 refine⟨λe he=>(each e (eT.1 he).1).1,λe he=>(each e (eT.1 he).1).2,RK,rv,?_⟩;exact gk (pg _ _) (by omega)
def amc {r:Realm}(hr:RightD r){f:File}(h:PaperOK r f)(forum day:Int):eJ r forum f day=-1\/(0<=eJ r forum f day/\eJ r forum f day<=100000/\0<=day):=by
 rcases aug hr forum f day with e|⟨h0,h1⟩
 .exact .inl e
 .have au:(cr f day).signs≠[]:=λe=>by unfold eJ at h0;rw[if_pos e] at h0;omega
  obtain⟨s,hs⟩:=List.exists_mem_of_ne_nil _ au;have hp:=cP.1 List.all_takeWhile s hs;obtain⟨i,hi,rfl⟩:=fu ((O5 _).subset hs);have h2:=(h.sign i hi).day.1;have h3:=ab3 h i hi;simp at hp;exact .inr ⟨h0,h1,by omega⟩
def ao3 (r:Realm)(f:File)(q:Quote):Prop:=q.fails.length<=20/\E7 r f=true/\PaperOK r f
def ak6 (r:Realm)(hr:r.OK)(f:File)(Fa:f.OK)(q:Quote):∃d,ah T 7 [aP r,ct f,lu q] d/\∃b:Bool,d=.bool b/\(b=true->ao3 r f q):=by
 refine ah.ex_of_tree rfl akO ayr ?_;simp[Xy];by_cases hl:q.fails.length<=20
 case neg=>
  have sW:¬((q.fails.length:Int)<=20):=by omega
  simp[hl,sW]
  try exact⟨⟨_,aid r f hr⟩,by simp⟩
 have sW:(q.fails.length:Int)<=20:=by omega
 simp[sW];refine⟨_,aid r f hr,?_⟩;cases e1:ux r f
 .simp
 have hs:Small r:=QV hr (by simp only[ux,ao] at e1;exact e1.1.1);simp;refine⟨_,avP r hs,?_⟩;by_cases e2:dv r=0
 case neg=>simp[e2]
 obtain⟨d,hd,e,rfl,he⟩:=avc r hs f Fa;simp[e2];refine⟨_,hd,?_⟩;simp;by_cases e0:e=0
 .exact .inr ⟨e0,hl,by simp[E7,e1,e2],he.1 e0⟩
 .exact .inl e0
def xo:Order:=⟨⟨#[103,101,110,101,118,97]⟩,false,[],[⟨0,.mk 1 1 []⟩,⟨1,.mk 1 1 []⟩,⟨2,.mk 2 15 []⟩]⟩
def bx:Realm:=⟨[⟨#[102,114,97,110,99]⟩],[⟨⟨#[76,121,111,110]⟩,0,0,[],[],[]⟩],[⟨3⟩,⟨5⟩],[⟨⟨#[97]⟩,0,1⟩,⟨⟨#[98]⟩,0,0⟩],[xo],[],[],[]⟩
def zT:Bill:=⟨0,1,0,1000,0,⟨3,40,0⟩,2,0,0,-1,0,1,1⟩
def cn (s d:Int):File:=⟨zT,[⟨0,0,0,-1,-1,0,2,0,0⟩,⟨1,0,1,-1,-1,s,3,0,0⟩],[],[],[⟨0,0,d⟩,⟨0,1,1⟩]⟩
def ij:Quote:=⟨100,[⟨1,1⟩,⟨1,1⟩,⟨1,1⟩,⟨1,10⟩,⟨1,1⟩,⟨1,2⟩,⟨1,1⟩,⟨1,1⟩,⟨1,1⟩,⟨1,1⟩]⟩
def aAL:ah T 15 [] (aP bx):=by
 refine zyw 2 ays ?_;simp[Xz,zzy,aP,bx,xo,strs,pC,groups,firms,orders,rules,choices,usances,rates,halts,-aG2]
 try rfl
def Dx:ah T 17 [] (lu ij):=by
 refine zyw 3 ayt ?_;simp[XA];refine aL.forRounds 10 (λk=>[.int k]) (λk=>[.list ((List.range 10).map λi=>if i<k then oc ⟨1,1⟩ else oc ⟨0,0⟩)]) ?_ (λk hk=>?_) ?_
 .simp
  try rfl
 .have hw:=bt hk (by omega);have bf:(k:Int)<10:=by omega
  rcases k with _|_|_|_|_|_|_|_|_|_|k
  all_goals first|omega|skip
  all_goals
   simp[air,Nx]
   first|rfl|exact⟨aQ (by omega),rfl⟩
 .simp[air,Nx]
  try rfl
def Dw (s d:Int):ah T 18 [.int s,.int d] (ct (cn s d)):=by
 refine zyw 11 ayq ?_;simp[Xx]
 try rfl
def aAV:Small bx:=by
 refine⟨by decide,by decide,by decide,by decide,by decide,by decide,by decide,by decide,?_,?_,?_⟩
 .intro c hc;simp[bx] at hc;rcases hc with rfl;simp
 .intro o ho;simp[bx] at ho;rcases ho with rfl;simp[xo]
 .intro x hx;simp[bx] at hx
def IA:RightD bx:=⟨aAV,by decide,λh hh=>by simp[bx] at hh⟩
def ZU:Right bx:=by
 have n:∀a k:Int,0<=a->a<=100->0<=k->k<=100->(Tm.mk a k []).OK:=λa k h1 h2 h3 h4=>.mk _ _ [] (LV (by omega)) (LV (by omega)) (by decide) (λ_ h=>by cases h);refine⟨?_,by decide,?_⟩
 .intro o ho;obtain rfl:o=xo:=by simpa [bx] using ho
  exact⟨by decide,λch h=>by simp[xo] at h⟩
 .intro o ho;obtain rfl:o=xo:=by simpa [bx] using ho
  refine⟨⟨⟨by decide,λch h=>by simp[xo] at h⟩,by decide,?_⟩,by decide⟩;intro x hx;simp[xo] at hx;rcases hx with rfl|rfl|rfl
  all_goals exact⟨LV (by decide),n _ _ (by decide) (by decide) (by decide) (by decide)⟩
def ZO (s d:Int):FewS (cn s d):=⟨by simp[cn],by simp[cn],by simp[cn],by simp[cn]⟩
def aAP (s d:Int)(h1:(cr (cr (cn s d) 4) 4).signs≠[])(h2:sl (cr (cr (cn s d) 4) 4)=-1)(h3:max (qe (ls bx 0 6 (cr (cr (cn s d) 4) 4) 4)) 0=0):eJ bx 0 (cr (cn s d) 4) 4=40:=by
 have h5:lT bx 0 40=(40,0):=by kernel_rfl
 have h4:nL bx zT (-1) 0=lT bx 0 (40+0):=abC (b:=zT) IA (by kernel_rfl) (by decide) (by decide) (by decide) rfl rfl (by decide) (by omega) (by show(40:Int)+0<=100000;omega);unfold eJ;rw[if_neg h1,h2,h3,show(cr (cn s d) 4).bill=zT from rfl,h4,show(40:Int)+0=40 from rfl,h5];simp
def ZN (s d:Int)(l:List Effect)(h1:(cr (cr (cn s d) 4) 4).signs≠[])(h2:sl (cr (cr (cn s d) 4) 4)=-1)(h3:max (qe (ls bx 0 6 (cr (cr (cn s d) 4) 4) 4)) 0=0)
 (h:((List.range (cr (cn s d) 4).signs.length).map λ(k:Nat)=>mK ⟨bx,0,4,cr (cn s d) 4,Iu (ls bx 0 0 (cr (cn s d) 4) 4),40⟩ k).filter Tg=l):dZ bx 0 (cn s d) 4=l:=by
 unfold dZ uo kD;rw[aAP s d h1 h2 h3];exact h
def ZP:dZ bx 0 (cn 1000 0) 4=[⟨1,1,1,1,0,1000,false⟩]:=ZN 1000 0 _ (by decide) (by kernel_rfl) (by kernel_rfl) (by kernel_rfl)
def ajN:dZ bx 0 (cn 1000 1) 4=[⟨0,0,0,1,0,1000,true⟩,⟨1,1,1,1,0,1000,false⟩]:=ZN 1000 1 _ (by decide) (by kernel_rfl) (by kernel_rfl) (by kernel_rfl)
def OI:dZ bx 0 (cn 600 1) 4=[⟨0,0,0,1,0,1000,true⟩,⟨1,1,1,1,0,600,false⟩]:=ZN 600 1 _ (by decide) (by kernel_rfl) (by kernel_rfl) (by kernel_rfl)
def ZT:jD ij=0:=by decide
def ajS:pq ij.fails:=(Vj ZT).2.2
def aAO:II bx:=by
 intro f hf;simp[bx] at hf;rcases hf with rfl|rfl<;>decide
def ajM:xt bx:=by
 intro g hg;simp[bx] at hg;rcases hg with rfl|rfl<;>decide
def ZR {l:List Effect}(h1:∀e,e∈l->(0<=e.firm/\e.firm<2)/\0<=e.sum/\e.sum<=1000)(h2:l.length<=2):PayOK bx l:=
 ⟨λe he=>(h1 e he).1,λe he=>by have:=(h1 e he).2;omega,aAO,ajM,by omega⟩
def ZV {l l':List Effect}{n:Int}(hp:∀e,e∈l'↔e∈l)(hs:l'.Pairwise λa b=>a.sum<=b.sum)(h0:∀e,e∈l->0<=e.sum/\e.sum<=1000)(h:(iu (eA bx l ij.fails) (l'.map (·.sum))).1=n):j5 bx l ij.fails=n:=by
 rw[<-ajJ (r:=bx) ajS hp hs (λe he=>by have:=h0 e he;omega),h]
def ajT:j5 bx [⟨1,1,1,1,0,1000,false⟩] ij.fails=900:=ZV (l':=[⟨1,1,1,1,0,1000,false⟩]) (λe=>Iff.rfl) (by simp) (by simp) (by kernel_rfl)
def aAW:j5 bx [⟨0,0,0,1,0,1000,true⟩,⟨1,1,1,1,0,1000,false⟩] ij.fails=950:=ZV (l':=[⟨0,0,0,1,0,1000,true⟩,⟨1,1,1,1,0,1000,false⟩]) (λe=>Iff.rfl) (by simp) (by simp) (by kernel_rfl)
def ajU:j5 bx [⟨0,0,0,1,0,1000,true⟩,⟨1,1,1,1,0,600,false⟩] ij.fails=770:=ZV (l':=[⟨1,1,1,1,0,600,false⟩,⟨0,0,0,1,0,1000,true⟩]) (λe=>by simp[or_comm]) (by simp) (by simp) (by kernel_rfl)
def IB (s d:Int){l:List Effect}{n:Int}(hl:dZ bx 0 (cn s d) 4=l)(hw:j5 bx l ij.fails=n):kH bx 0 (cn s d) 4 ij=(n,0):=by
 unfold kH;rw[if_neg (by rw[ZT];simp;decide),hl,hw]
def ZQ (s d:Int)(h1:(cr (cn s d) 4).signs≠[])(h2:sl (cr (cn s d) 4)=-1)(h3:max (qe (ls bx 0 6 (cr (cn s d) 4) 4)) 0=0):eJ bx 0 (cn s d) 4=40:=by
 have h5:lT bx 0 40=(40,0):=by kernel_rfl
 have h4:nL bx zT (-1) 0=lT bx 0 (40+0):=abC (b:=zT) IA (by kernel_rfl) (by decide) (by decide) (by decide) rfl rfl (by decide) (by omega) (by show(40:Int)+0<=100000;omega);unfold eJ;rw[if_neg h1,h2,h3,show(cn s d).bill=zT from rfl,h4,show(40:Int)+0=40 from rfl,h5];simp
def ajO:eJ bx 0 (cn 1000 0) 4=40:=ZQ 1000 0 (by decide) (by kernel_rfl) (by kernel_rfl)
def ajP:eJ bx 0 (cn 1000 1) 4=40:=ZQ 1000 1 (by decide) (by kernel_rfl) (by kernel_rfl)
def ajQ:eJ bx 0 (cn 600 1) 4=40:=ZQ 600 1 (by decide) (by kernel_rfl) (by kernel_rfl)
def aAN:ah T 16 [aP bx,ints [0,1],lu ij] (.tup [.int 50000000,.int 0]):=by
 have hc:=abg bx [0,1] ij (by intro g hg;simp at hg;rcases hg with rfl|rfl<;>decide) ajM ajS (by decide);rw[show py bx [0,1] ij.fails=50000000 by kernel_rfl] at hc;have hk:=OO ij (by decide);rw[ZT] at hk;refine zyw 4 ayM ?_;simp[XS];refine⟨_,hk,?_⟩;refine aL.forRounds 2 (λk=>[.bool false,.int k]) (λ_=>[]) ?_ (λk hk=>?_) ?_
 .simp
 .rcases k with _|_|k
  .simp[VD,Hg,ints];decide
  .simp[VD,Hg,ints];decide
  .omega
 .simp[VD,Hg,ints];exact hc
def akg (r:Realm)(hr:Right r)(hd:RightD r)(forum:Int)(f:File)(day s:Int)(hf:FewS f)(ho:0<=forum/\forum<r.orders.length)(hp:PayOK r (dZ r forum f day)):ah T 21 [aP r,.int forum,ct f,.int day,.int s] (ints (eW r (dZ r forum f day) s)):=by
 refine zyw 116 ayP ?_;simp[XU];refine⟨_,S7 r forum,?_⟩;simp[ho];refine⟨_,aeN r hr hd forum f day hf,?_⟩;exact acg r _ s hp.firms hp.len
def aAR:ni bx 0 (cn 1000 0) 4 ij=(891,0):=by
 unfold ni;rw[IB 1000 0 ZP ajT,ajO];decide
def aAS:ni bx 0 (cn 1000 1) 4 ij=(940,0):=by
 unfold ni;rw[IB 1000 1 ajN aAW,ajP];decide
def aAT:ni bx 0 (cn 600 1) 4 ij=(762,0):=by
 unfold ni;rw[IB 600 1 OI ajU,ajQ];decide
def ajR:PayOK bx (dZ bx 0 (cn 1000 0) 4):=by rw[ZP];exact ZR (by simp) (by simp)
def aAU:PayOK bx (dZ bx 0 (cn 1000 1) 4):=by rw[ajN];exact ZR (by simp) (by simp)
def ZS:PayOK bx (dZ bx 0 (cn 600 1) 4):=by rw[OI];exact ZR (by simp) (by simp)
def ajL {s d n:Int}(hp:PayOK bx (dZ bx 0 (cn s d) 4))(h:kH bx 0 (cn s d) 4 ij=(n,0)):ah T 10 [aP bx,.int 0,ct (cn s d),.int 4,lu ij] (.tup [.int n,.int 0]):=by
 have:=IV bx ZU IA 0 (cn s d) 4 (ZO s d) ij (by decide) hp
 rwa [h] at this
def ZM {s d n:Int}(hp:PayOK bx (dZ bx 0 (cn s d) 4))(h:ni bx 0 (cn s d) 4 ij=(n,0))(hm:eJ bx 0 (cn s d) 4=40):ah T 9 [aP bx,.int 0,ct (cn s d),.int 4,lu ij] (.tup [.int n,.int 0]):=by
 have:=Pc bx ZU IA 0 (cn s d) 4 (ZO s d) ij (by decide) hp (LV (by decide)) (.inr ⟨by omega,by omega,by omega⟩)
 rwa [h] at this
def aAQ:ah T 19 [lu ⟨0,[]⟩] (.int 1):=by
 have:=OO ⟨0,[]⟩ (by decide)
 rwa [show jD ⟨0,[]⟩=1 by decide] at this
def aAM:ah T 21 [aP bx,.int 0,ct (cn 600 1),.int 4,.int 601] (ints [1]):=by
 have:=akg bx ZU IA 0 (cn 600 1) 4 601 (ZO 600 1) (by decide) ZS
 rwa [OI,show eW bx [⟨0,0,0,1,0,1000,true⟩,⟨1,1,1,1,0,600,false⟩] 601=[1] by decide] at this
def aw1:ah T 6 [] (.bool true):=by
 refine zyw 1 ayu ?_;simp[XB];refine⟨_,aAL,_,Dx,_,aAN,_,Dw 1000 0,_,Dx,_,ajL ajR (IB 1000 0 ZP ajT),_,Dw 1000 0,_,Dx,_,ZM ajR aAR ajO,_,Dw 1000 1,_,Dx,_,ZM aAU aAS ajP,_,Dw 600 1,_,Dx,_,ajL ZS (IB 600 1 OI ajU),_,Dw 600 1,_,Dx,_,ZM ZS aAT ajQ,_,aAQ,?_⟩;simp;exact⟨_,Dw 600 1,_,aAM,av5 [1] (by decide)⟩
def anL (r:Realm)(l:List Firm):Realm:={r with firms:=l}
def ib (a b:Int)(f:Firm):Firm:={f with group:=jm a b f.group}
def bL (r:Realm)(a b:Int):Realm:=anL r (r.firms.map (ib a b))
def WR (r:Realm)(a b:Int)(i:Nat)(hi:i<r.firms.length):(bL r a b).firms.getD i default=ib a b (r.firms.getD i default):=by
 show(r.firms.map (ib a b)).getD i default=_;simp[hi]
def ajm (r:Realm)(a b:Int)(i:Nat):((bL r a b).firms.getD i default).city=(r.firms.getD i default).city:=by
 by_cases hi:i<r.firms.length
 .rw[WR r a b i hi];rfl
 .have h1:(bL r a b).firms.getD i default=default:=by
   show(r.firms.map (ib a b)).getD i default=_;simp[hi]
  have h2:r.firms.getD i default=default:=by simp[hi]
  rw[h1,h2]
def WT (r:Realm)(a b:Int):(bL r a b).firms.length=r.firms.length:=by
 show(r.firms.map (ib a b)).length=_;simp
def avt (r:Realm)(a b forum:Int)(c:Case):jC (bL r a b) forum c=jC r forum c:=by
 have h1:nJ (bL r a b) forum c=nJ r forum c:=by unfold nJ;rw[WT];rfl
 have h2:kX (bL r a b) forum c=kX r forum c:=by unfold kX;rw[ajm];rfl
 unfold jC;rw[h2];simp only[h1]
def asC (r:Realm)(a b forum q:Int)(l:List Int):jd (bL r a b) forum q l=jd r forum q l:=by kernel_rfl
def aAw (r:Realm)(a b:Int)(c:Case):j4 (bL r a b) c=j4 r c:=by kernel_rfl
def aaO (r:Realm)(a b forum q:Int)(c:Case):vz (bL r a b) forum q c=vz r forum q c:=by
 have h:jo (bL r a b) forum q c=jo r forum q c:=by
  unfold jo;rw[aAw,avt,asC]
 have h2:na (bL r a b)=na r:=by kernel_rfl
 unfold vz;rw[h,h2]
def aaW (r:Realm)(a b forum q:Int)(f:File)(day:Int):ls (bL r a b) forum q f day=ls r forum q f day:=aaO ..
def ase {n:Nat}{a b g:Int}(ha:0<=a/\a<n)(hb:0<=b/\b<n):aC (jm a b g) n=aC g n:=by
 unfold jm;split
 .rename_i h;subst h;simp[aC,ha,hb]
 split
 .rename_i h;subst h;simp[aC,ha,hb]
 .rfl
def alH {r:Realm}{a b:Int}(ha:0<=a/\a<r.groups.length)(hb:0<=b/\b<r.groups.length):dv (bL r a b)=dv r:=by
 have h1:dF (bL r a b)=dF r:=by
  show(r.firms.map (ib a b)).map (·.name)=r.firms.map (·.name);rw[lW];rfl
 have h2:dj (dF r) 200 (jM (bL r a b))=dj (dF r) 200 (jM r):=by
  unfold dj;split
  .rfl
  .unfold fC
   congr 2
   refine qH λk hk=>?_;have hk:k<r.firms.length:=by simpa [dF] using hk
   unfold km;have:jM (bL r a b) k=jM r k:=by
        unfold jM;rw[ajm,WR r a b k hk];show(aC _ r.cities.length&&aC (jm a b _) r.groups.length)=_;rw[ase ha hb]
   rw[this]
 show fe [dj r.currencies 8 (λ_=>true),dj (fi r) 40 (pA r),rk r,dj (dF (bL r a b)) 200 (jM (bL r a b)),dj (eR r) 20 (nf r),vg r,oR r]=dv r;rw[h1,h2];rfl
def amy {r:Realm}{a b:Int}(h1:RightD r)(h2:RightD (bL r a b))(h:dv (bL r a b)=dv r)(x:Bill)(seen bS:Int):nL (bL r a b) x seen bS=nL r x seen bS:=by
 rw[QH h1,QH h2];unfold vE;rw[h];kernel_rfl
def Tt {r:Realm}{a b:Int}(h1:RightD r)(h2:RightD (bL r a b))(h:dv (bL r a b)=dv r)(forum:Int)(f:File)(day:Int):eJ (bL r a b) forum f day=eJ r forum f day:=by
 unfold eJ;rw[aaW,amy h1 h2 h]
def aeO {r:Realm}{a b:Int}(h1:RightD r)(h2:RightD (bL r a b))(h:dv (bL r a b)=dv r)(forum:Int)(f:File)(day:Int):dZ (bL r a b) forum f day=dZ r forum f day:=by
 have ho:kD (bL r a b) forum f day={kD r forum f day with realm:=bL r a b}:=by
  unfold kD;rw[aaW,Tt h1 h2 h]
 unfold dZ uo;rw[ho];have he:∀k:Int,mK {kD r forum f day with realm:=bL r a b} k=mK (kD r forum f day) k:=by
  intro k;have hs:∀q s:Int,j0 {kD r forum f day with realm:=bL r a b} q s=j0 (kD r forum f day) q s:=by
   intro q s;unfold j0;simp only[aaO];rfl
  have ht:∀s:Int,oW {kD r forum f day with realm:=bL r a b} s=oW (kD r forum f day) s:=by
   intro s;unfold oW;simp only[hs]
  unfold mK;rw[hs,hs,ht]
 simp only[he]
def axy {r:Realm}(h:Small r)(a b:Int):Small (bL r a b):=⟨h.cur,h.cities,h.groups,by rw[WT];exact h.firms,h.orders,h.us,h.rates,h.halts,h.city,h.order,h.rate⟩
def avn {r:Realm}{x y:Int}(hx:0<=x/\x<r.groups.length)(hy:0<=y/\y<r.groups.length){l:List Effect}(h:PayOK r l):PayOK (bL r x y) l:=by
 refine⟨λe he=>?_,h.sums,λf hf=>?_,h.gr,h.len⟩
 .rw[WT];exact h.firms e he
 .obtain⟨g,hg,rfl⟩:=bZ.1 (show f∈r.firms.map (ib x y) from hf);have:=h.fg g hg;show 0<=jm x y g.group/\jm x y g.group<r.groups.length;unfold jm;split
  .exact hy
  split
  .exact hx
  .exact this
def ajI {r:Realm}{x y:Int}(h1:RightD r)(h2:RightD (bL r x y))(h:dv (bL r x y)=dv r)(mc:cE r x=cE r y)(forum:Int)(f:File)(day:Int)(q:Quote)(hf:z8 r (dZ r forum f day)):kH (bL r x y) forum f day q=kH r forum f day q:=by
 have hw:j5 (bL r x y) (dZ (bL r x y) forum f day) q.fails=j5 r (dZ r forum f day) q.fails:=by
  rw[aeO h1 h2 h];refine aAH (x:=x) (y:=y) rfl mc λe he=>?_;have:=hf e he;show((bL r x y).firms.getD e.firm.toNat default).group=_;rw[WR r x y _ (by omega)];rfl
 have ho:p7 (bL r x y) forum↔p7 r forum:=Iff.rfl;unfold kH;rw[hw];by_cases hc:jD q≠0\/¬p7 r forum
 .rw[if_pos hc,if_pos (show jD q≠0\/¬p7 (bL r x y) forum from hc)]
 .rw[if_neg hc,if_neg (show ¬(jD q≠0\/¬p7 (bL r x y) forum) from hc)]
def avy {r:Realm}{x y:Int}(h1:RightD r)(h2:RightD (bL r x y))(h:dv (bL r x y)=dv r)(mc:cE r x=cE r y)(forum:Int)(f:File)(day:Int)(q:Quote)(hf:z8 r (dZ r forum f day)):ni (bL r x y) forum f day q=ni r forum f day q:=by
 unfold ni;rw[ajI h1 h2 h mc forum f day q hf,Tt h1 h2 h]
def axx (r:Realm)(x y:Int){k:Nat}(hk:k<r.firms.length):(r.firms.take (k+1)).map (ib x y)++r.firms.drop (k+1)=((r.firms.take k).map (ib x y)++r.firms.drop k).set k (ib x y r.firms[k]):=by
 rw[iQ hk,nH,List.set_append];simp[hk,lq (Nat.le_of_lt hk)];rw[aad hk];rfl
def ako (r:Realm)(hr:r.OK)(forum:Int)(f:File)(Fa:f.OK)(day:Int)(uG:aZ day)(q:Quote)(Ss:q.OK)(x y:Int):
 ah T 4 [aP r,.int forum,ct f,.int day,lu q,.int x,.int y] (.bool true):=by
 refine zyw 0 ayp ?_;simp[Xw];obtain⟨d,hd,b,rfl,hb⟩:=ak6 r hr f Fa q;refine⟨_,aw1,_,hd,?_⟩;cases b
 .simp
 obtain⟨uO,hg,hP⟩:=hb rfl;have G:=ao6 hr hg;have ko:dv r=0:=by simp[E7] at hg;exact hg.2
 have LI:q.fails.length<=4294967296:=by omega
 simp;refine⟨by omega,by omega,?_⟩;intro Gc hy0 jx LU mc;have hxn:x.toNat<r.groups.length:=by omega
 have hyn:y.toNat<r.groups.length:=by omega
 have lD:cE r x=cE r y:=by
  simp[hxn,hyn] at mc;unfold cE;simp[hxn,hyn];exact mc
 have hsm:=G.rightD.small;have uI:=hsm.firms;refine⟨by omega,?_⟩;have Lg:=alH (r:=r) ⟨Gc,jx⟩ ⟨hy0,LU⟩;have BK:RightD (bL r x y):=⟨axy hsm x y,G.rightD.halts⟩
 have BM:Right (bL r x y):=⟨G.right.by_,G.right.len,G.right.ok⟩
 have rD:=avm G ko hP forum day;have eP:PayOK (bL r x y) (dZ (bL r x y) forum f day):=by rw[aeO G.rightD BK Lg];exact avn ⟨Gc,jx⟩ ⟨hy0,LU⟩ rD
 have br:=amc G.rightD hP forum day;have dB:eJ (bL r x y) forum f day=-1\/(0<=eJ (bL r x y) forum f day/\eJ (bL r x y) forum f day<=100000/\0<=day):=by rw[Tt G.rightD BK Lg];exact br
 have p1:=Pc r G.right G.rightD forum f day G.few q LI rD uG br;have p2:=Pc (bL r x y) BM BK forum f day G.few q LI eP uG dB;have w1:=IV r G.right G.rightD forum f day G.few q LI rD;have w2:=IV (bL r x y) BM BK forum f day G.few q LI eP;rw[avy G.rightD BK Lg lD forum f day q rD.firms] at p2;rw[ajI G.rightD BK Lg lD forum f day q rD.firms] at w2;refine aL.forRounds r.firms.length (λk=>[.int k]) (λk=>[firms ((r.firms.take k).map (ib x y)++r.firms.drop k)]) ?_ (λk hk=>?_) ?_
 .simp
  try rfl
 .have hw:=bt hk (by omega);have hlen:((r.firms.take k).map (ib x y)++r.firms.drop k).length=r.firms.length:=by simp;omega
  have lE:∀h:k<((r.firms.take k).map (ib x y)++r.firms.drop k).length,((r.firms.take k).map (ib x y)++r.firms.drop k)[k]'h=r.firms[k]:=by
   intro h;rw[List.getElem_append_right (by simp;omega)];simp[lq (Nat.le_of_lt hk)]
  rw[axx r x y hk];generalize (r.firms.take k).map (ib x y)++r.firms.drop k=L at*;have hkL:k<L.length:=by omega
  have lE:=lE hkL;simp[aiq,Nw,hk,hw,hlen,hkL,lE];have tg:∀g:Firm,firms (L.set k g)=D.list ((L.map re).set k (re g)):=λg=>by unfold firms;rw[List.map_set]
  rw[tg];by_cases h1:r.firms[k].group=x
  .rw[if_pos h1];by_cases h2:r.firms[k].group=y
   .rw[if_pos h2];have:ib x y r.firms[k]={r.firms[k] with group:=x}:=by unfold ib jm;rw[if_pos h1,<-h2,h1]
    rw[this];rfl
   .rw[if_neg h2];have:ib x y r.firms[k]={r.firms[k] with group:=y}:=by unfold ib jm;rw[if_pos h1]
    rw[this];rfl
  .rw[if_neg h1];by_cases h2:r.firms[k].group=y
   .rw[if_pos h2];have:ib x y r.firms[k]={r.firms[k] with group:=x}:=by unfold ib jm;rw[if_neg h1,if_pos h2]
    rw[this];rfl
   .rw[if_neg h2];have:ib x y r.firms[k]=r.firms[k]:=by unfold ib jm;rw[if_neg h1,if_neg h2]
    rw[this,<-lE,<-tg,List.set_getElem_self]
 .rw[DN,List.drop_length,tX];simp[aiq,Nw];refine⟨_,p1,_,p2,_,w1,_,w2,?_⟩;simp
end Rm
