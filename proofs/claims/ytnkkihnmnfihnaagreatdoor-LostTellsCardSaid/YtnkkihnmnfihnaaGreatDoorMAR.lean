import Derived.Test.YtnkkihnmnfihnaaGreatDoorMAQ
import Derived.Test.YtnkkihnmnfihnaaGreatDoorMAP
import Derived.Test.YtnkkihnmnfihnaaGreatDoorMAO
open Go.IntKind (i64)
set_option linter.all false
namespace Rm
open Go Go.Proofs Cx
instance (a b:Int):Decidable (aiE a b):=by unfold aiE;infer_instance
def ahi (f:File)(day:Int)(h1:f.signs.length<=4294967295)(h2:f.acts.length<=4294967295)(h3:f.alters.length<=4294967295)(h4:f.facts.length<=4294967295):aq T 21 [aS f,.int day] (aS (cm f day)):=by
 refine zyw 141 azj ?_;simp[Xx];obtain⟨m,hm,hS,KX,we⟩:=Ad (λs:Sign=>decide (s.day<=day)) f.signs;obtain⟨n,hn,hA,QL,QM⟩:=Ad (λs:Act=>decide (s.day<=day)) f.acts;refine aN.forRounds m (λk=>[.int k]) (λk=>[]) ?_ (λk hk=>?_) ?_
 .simp
 .have bh:k<f.signs.length:=by omega
  have hw:=aV bh (by omega);have hd:=KX k bh hk;simp at hd;have fU:¬day<f.signs[k].day:=by omega
  simp[Vh,Hg,bh,hw,fU]
 have oF:(f.signs.take m).length=m:=by simp;omega
 have Rz:(f.acts.take n).length=n:=by simp;omega
 have QN:cm f day=⟨f.bill,f.signs.take m,f.alters.filter (jD m),f.acts.take n,f.facts.filter (j8 m)⟩:=by
  unfold cm Ia Zm;rw[hS,hA,oF]
 rw[QN];by_cases dz:m<f.signs.length
 case' pos=>
  have hd:=we dz;simp at hd;simp[Vh,Hg,dz,hd];generalize D.bool true=bb
 case' neg=>
  simp[Vh,Hg,dz];generalize D.bool false=bb
 all_goals
  refine aN.forRounds n (λk=>[.int k]) (λk=>[]) ?_ (λk hk=>?_) ?_
  .simp
  .have bh:k<f.acts.length:=by omega
   have hw:=aV bh (by omega);have hd:=QL k bh hk;simp at hd;have fU:¬day<f.acts[k].day:=by omega
   simp[Vi,Hh,bh,hw,fU]
  by_cases iV:n<f.acts.length
  case' pos=>
   have hd:=QM iV;simp at hd;simp[Vi,Hh,iV,hd];generalize D.bool true=bc
  case' neg=>
   simp[Vi,Hh,iV];generalize D.bool false=bc
  all_goals
   refine⟨by omega,by omega,by omega,by omega,?_⟩;refine aN.forRounds f.alters.length (λk=>[.int k]) (λk=>[kD f.bill (.bool false) (mN ((f.alters.take k).filter (jD m))) (.bool false) (.list []),alters ((f.alters.take k).filter (jD m))]) ?_ (λk hk=>?_) ?_
   .simp[alters,signs,acts,kD]
    try rfl
   .have hw:=aV hk (by omega);have ht:=N1 (jD m) f.alters hk;rw[ht];have hlen:((f.alters.take k).filter (jD m)).length<=k:=my (tQ _ _) (by simp;omega);generalize (f.alters.take k).filter (jD m)=B at*;by_cases hd:f.alters[k].at_<=(m:Int)
    .simp[Vj,Hi,jD,hk,hw,hd];exact⟨by omega,by simp[alters,kD,acs]<;>rfl⟩
    .simp[Vj,Hi,jD,hk,hw,hd]
   simp[Vj,Hi];generalize f.alters.filter (jD m)=B at*;refine aN.forRounds f.facts.length (λk=>[.int k]) (λk=>[kD f.bill (.bool false) (mN B) (.bool false) (mN ((f.facts.take k).filter (j8 m))),facts ((f.facts.take k).filter (j8 m))]) ?_ (λk hk=>?_) ?_
   .simp[facts]
   .have hw:=aV hk (by omega);have ht:=N1 (j8 m) f.facts hk;rw[ht];have hlen:((f.facts.take k).filter (j8 m)).length<=k:=my (tQ _ _) (by simp;omega);generalize (f.facts.take k).filter (j8 m)=C at*;by_cases bx:0<=f.facts[k].at_
    .by_cases dM:f.facts[k].at_<(m:Int)
     .simp[Nq,Dm,j8,aw,hk,hw,bx,dM];exact⟨by omega,by simp[facts,kD,acs]<;>rfl⟩
     .simp[Nq,Dm,j8,aw,hk,hw,bx,dM]
    .simp[Nq,Dm,j8,aw,hk,hw,bx]
   simp[Nq,Dm,bH,kD];simp[aS,signs,acts,wd,-aGR]
def aud (x i:Nat):x&&& 2^i=if x.testBit i then 2^i else 0:=by
 apply Nat.eq_of_testBit_eq;intro j;rw[Nat.testBit_and,Nat.testBit_two_pow];by_cases h:i=j
 .subst h;cases x.testBit i<;>simp
 .cases x.testBit i<;>simp[h]
def OZ (n:Int)(i:Nat)(hi:i<3):cC .and .i64 n ((2^i:Nat):Int)=0\/cC .and .i64 n ((2^i:Nat):Int)=((2^i:Nat):Int):=by
 have hp:i=0\/i=1\/i=2:=by omega
 have h2:(BitVec.ofInt 64 ((2^i:Nat):Int)).toNat=2^i:=by
  rcases hp with rfl|rfl|rfl<;>rfl
 have h1:(BitVec.ofInt 64 n&&& BitVec.ofInt 64 ((2^i:Nat):Int)).toNat=if(BitVec.ofInt 64 n).toNat.testBit i then 2^i else 0:=by
  rw[BitVec.toNat_and,h2,aud]
 have h3:cC .and .i64 n ((2^i:Nat):Int)=i64.wrap (((BitVec.ofInt 64 n&&& BitVec.ofInt 64 ((2^i:Nat):Int)).toNat:Nat):Int):=rfl;rw[h3,h1];cases(BitVec.ofInt 64 n).toNat.testBit i with
 |false=>left;rfl
 |true=>
  right;rcases hp with rfl|rfl|rfl<;>rfl
def amV (n k:Int)(hk:k=1\/k=2\/k=4):decide (cC .and .i64 n k=k)=pM n k:=by
 unfold pM;have h:cC .and .i64 n k=0\/cC .and .i64 n k=k:=by
  rcases hk with rfl|rfl|rfl
  .exact OZ n 0 (by omega)
  .exact OZ n 1 (by omega)
  .exact OZ n 2 (by omega)
 have gP:k≠0:=by omega
 rcases h with h|h<;>rw[h]<;>simp[gP];omega
def vm (n:Int):aq T 159 [.int n] (cv ⟨true,n⟩):=by
 refine zyw 143 azp ?_;simp[XC]
 try rfl
def xg (b:Bool):aq T 160 [.bool b] (cv (fm b)):=by
 refine zyw 144 azq ?_;cases b
 .simp[Od];refine⟨_,vm 0,?_⟩;simp;rfl
 .simp[Od];refine⟨_,vm 1,?_⟩;simp;rfl
def M0 (n k:Int)(hk:k=1\/k=2\/k=4):aq T 161 [.int n,.int k] (.bool (pM n k)):=by
 rw[<-amV n k hk];refine zyw 145 azo ?_;simp[XB]
def Uy (r:Realm)(c:Int)(hl:r.cities.length<=100000):aq T 134 [aX r,.int c] (.int (dZ r c)):=by
 have hw:i64.wrap ((r.cities.length:Int)-1)=(r.cities.length:Int)-1:=bn (by omega);refine zyw 146 ayP ?_;simp[W6,dZ,hw];refine⟨_,bJ c 0 _,?_⟩;have he:wi c 0 ((r.cities.length:Int)-1)=aw c r.cities.length:=by
  rw[sc];simp[wi,aw];omega
 rw[he];cases h:aw c r.cities.length
 .simp[h]
 .simp[aw] at h;have h1:c.toNat<r.cities.length:=by omega
  simp[h,h1]
def ai3 (b:Nat->PC):PT:=
 (.call ⟨[],[(7,(.setn o7 (pi 18) 0 (.r 210)))]⟩ [] 215 162 [(au 19 o5),(pi 4),bK] (.chk (aj o7 (pi 19)) (.ret (.setn o7 (pi 19) 0 (.r 215)))))
variable(b:Nat->PC)
def aje:PT:=
 (.call ⟨[],[(7,(.setn o7 (pi 17) 0 (.r 205)))]⟩ [] 210 162 [(au 19 o5),(pi 3),bK] (.chk (aj o7 (pi 18)) (ai3 b)))
def ajm:PT:=
 (.call ⟨[],[(7,(.setn o7 (pi 16) 0 (.r 199)))]⟩ [] 205 162 [(au 19 o5),(pi 2),(pc o3 19)] (.chk (aj o7 (pi 17)) (aje b)))
def ajn:PT:=
 (.call ⟨[],[(7,(.setn o7 (pi 15) 0 (.r 193)))]⟩ [] 199 162 [(au 19 o5),(pi 1),(pc o3 19)] (.chk (aj o7 (pi 16)) (ajm b)))
def ajo:PT:=
 (.call ⟨[(11,(.mx (pc o3 20) (pi 0)))],[(7,(.setn o7 (pi 13) 0 (.r 184)))]⟩ [] 193 162 [(au 19 o5),(pi 0),(pc o3 19)] (.chk (aj o7 (pi 15)) (ajn b)))
def ajp:PT:=
 (.call ⟨[],[]⟩ [] 184 160 [(.r 183)] (.chk (aj o7 (pi 13)) (ajo b)))
def ajq:PT:=
 (.call ⟨[],[(7,(.setn o7 (pi 12) 0 (.r 178)))]⟩ [] 183 161 [(pc o6 8),(pi 1)] (ajp b))
def ajr:PT:=
 (.call ⟨[],[]⟩ [] 178 160 [r9] (.chk (aj o7 (pi 12)) (ajq b)))
def ajs:PT:=
 (.call ⟨[],[]⟩ [] 155 160 [(aH (.r 148) (.r 153))] (.chk (aj o7 (pi 11)) (.brk ⟨[(10,(pi 0)),(9,pF)],[(7,(.setn o7 (pi 11) 0 (.r 155)))]⟩ (adQ b) (ajr b))))
def ai4:PT:=
 (.call ⟨[],[]⟩ [] 153 134 [(au 8 o2),(pc o5 10)] (ajs b))
def ai5:PT:=
 (.call ⟨[],[(7,(.setn o7 (pi 8) 0 (.r 141)))]⟩ [] 148 134 [(au 8 o2),(pc o5 9)] (ai4 b))
def ai6:PT:=
 (.call ⟨[],[(7,(.setn o7 (pi 9) 0 (.r 134)))]⟩ [] 141 160 [(ab (pc o5 2) (pi (-1)))] (.chk (aj o7 (pi 8)) (ai5 b)))
def ai7:PT:=
 (.call ⟨[],[]⟩ [] 134 160 [(.r 133)] (.chk (aj o7 (pi 9)) (ai6 b)))
def ai8:PT:=
 (.call ⟨[],[(7,(.setn o7 (pi 10) 0 MZ))]⟩ [] 133 161 [(pc o5 13),(pi 4)] (ai7 b))
def ai9:PT:=
 (.call ⟨[],[]⟩ [] 127 160 [ahe] (.chk (aj o7 (pi 10)) (ai8 b)))
def aja:PT:=
 (.call ⟨[],[(7,(.setn o7 (pi 7) 0 UB))]⟩ [] 126 161 [(pc o5 13),(pi 2)] (ai9 b))
def ajb:PT:=
 (.call ⟨[],[]⟩ [] 120 160 [ahc] (.chk (aj o7 (pi 7)) (aja b)))
def ajc:PT:=
 (.call ⟨[],[(7,(.setn o7 (pi 14) 0 ahb))]⟩ [] 119 161 [(pc o5 13),(pi 1)] (ajb b))
def ajd:PT:=
 (.call ⟨[],[(7,(.setn o7 (pi 6) 0 GP))]⟩ [] 113 160 [(aR r8 (pi 0))] (.chk (aj o7 (pi 14)) (ajc b)))
def ajf:PT:=
 (.call ⟨[(8,(.pick (aH (pc o3 22) (pi (-1))) (be (pc o6 6) (pc o3 22)) (pi 0)))],[(7,(.setn o7 (pi 5) 0 UP))]⟩ [] 108 159 [(.pick (aH (pc o3 22) (pi (-1))) (be (pc o6 6) (pc o3 22)) (pi 0))] (.chk (aj o7 (pi 6)) (ajd b)))
def ajg:PT:=
 (.call ⟨[],[(7,(.setn o7 (pi 4) 0 Df))]⟩ [] 96 159 [(pc o3 21)] (.chk (aj o7 (pi 5)) (ajf b)))
def ajh:PT:=
 (.call ⟨[],[(7,(.setn o7 (pi 3) 0 UO))]⟩ [] 91 159 [(pc o6 0)] (.chk (aj o7 (pi 4)) (ajg b)))
def aji:PT:=
 (.call ⟨[],[(7,(.setn o7 (pi 2) 0 tz))]⟩ [] 86 159 [(pc o5 12)] (.chk (aj o7 (pi 3)) (ajh b)))
def ajj:PT:=
 (.call ⟨[],[(7,(.setn o7 (pi 1) 0 zU))]⟩ [] 80 159 [(pc o5 5)] (.chk (aj o7 (pi 2)) (aji b)))
def ajk:PT:=
 (.call ⟨[],[(7,(.setn o7 (pi 0) 0 qt))]⟩ [] 73 159 [(pc o5 14)] (.chk (aj o7 (pi 1)) (ajj b)))
def ajl:PT:=
 (.call ⟨[],[(7,(.rep (pi 20) (.con (.agg [(.bool false),(.int 0)])))),(6,(.setc z9 0 (pn (pc (.setc (.con (.agg [(.int 0),(.int 0),(.int 0),(.int 0),(.int 0),(.int 0),(.int 0),(.int 0),(.int 0),(.int 0),(.int 0),(.int 0),(.int 0),(.int 0),(.int 0),(.list []),(.list []),(.list []),(.list [])])) 0 (au 19 (.mk [r1]))) 15) (pc (.mk [r1]) 19)))),(5,(.setc (.con (.agg [(.int 0),(.int 0),(.int 0),(.int 0),(.int 0),(.int 0),(.int 0),(.int 0),(.int 0),(.int 0),(.int 0),(.int 0),(.int 0),(.int 0),(.int 0),(.list []),(.list []),(.list []),(.list [])])) 0 (au 19 (.mk [r1])))),(3,(.mk [r1])),(2,(.mk [r0]))]⟩ [] 67 159 [(pc (.setc (.con (.agg [(.int 0),(.int 0),(.int 0),(.int 0),(.int 0),(.int 0),(.int 0),(.int 0),(.int 0),(.int 0),(.int 0),(.int 0),(.int 0),(.int 0),(.int 0),(.list []),(.list []),(.list []),(.list [])])) 0 (au 19 (.mk [r1]))) 3)] (.chk (aj o7 (pi 0)) (ajk b)))
def ai2:PT:=
 (.ite (.pick (.pick (.pick (.pick (.pick (af (pc (.mk [r1]) 19) (pi 0)) pT (bP (pc (.mk [r1]) 19) (.llen (pc (.setc (.con (.agg [(.int 0),(.int 0),(.int 0),(.int 0),(.int 0),(.int 0),(.int 0),(.int 0),(.int 0),(.int 0),(.int 0),(.int 0),(.int 0),(.int 0),(.int 0),(.list []),(.list []),(.list []),(.list [])])) 0 (au 19 (.mk [r1]))) 15)))) pT (af (pc (.mk [r1]) 20) (pi (-1)))) pT (bP (pc (.mk [r1]) 20) (.llen (pc (.setc (.con (.agg [(.int 0),(.int 0),(.int 0),(.int 0),(.int 0),(.int 0),(.int 0),(.int 0),(.int 0),(.int 0),(.int 0),(.int 0),(.int 0),(.int 0),(.int 0),(.list []),(.list []),(.list []),(.list [])])) 0 (au 19 (.mk [r1]))) 15)))) pT (af (pc (.mk [r1]) 22) (pi (-1)))) pT (aR (pc (.mk [r1]) 22) (pi 100000))) (.ret pL) (.chk (aj (pc (.setc (.con (.agg [(.int 0),(.int 0),(.int 0),(.int 0),(.int 0),(.int 0),(.int 0),(.int 0),(.int 0),(.int 0),(.int 0),(.int 0),(.int 0),(.int 0),(.int 0),(.list []),(.list []),(.list []),(.list [])])) 0 (au 19 (.mk [r1]))) 15) (pc (.mk [r1]) 19)) (.ite (.pick (af (pc (.setc z9 0 (pn (pc (.setc (.con (.agg [(.int 0),(.int 0),(.int 0),(.int 0),(.int 0),(.int 0),(.int 0),(.int 0),(.int 0),(.int 0),(.int 0),(.int 0),(.int 0),(.int 0),(.int 0),(.list []),(.list []),(.list []),(.list [])])) 0 (au 19 (.mk [r1]))) 15) (pc (.mk [r1]) 19))) 6) (pi 0)) pT (aR (pc (.setc z9 0 (pn (pc (.setc (.con (.agg [(.int 0),(.int 0),(.int 0),(.int 0),(.int 0),(.int 0),(.int 0),(.int 0),(.int 0),(.int 0),(.int 0),(.int 0),(.int 0),(.int 0),(.int 0),(.list []),(.list []),(.list []),(.list [])])) 0 (au 19 (.mk [r1]))) 15) (pc (.mk [r1]) 19))) 6) (pi 100000))) (.ret pL) (.chk (.an (bP (pi 20) (pi 0)) (bl (pi 20) (pi 4294967296))) (.chk (ab (pi 20) (pi 20)) (ajl b))))))
def azm (b:Nat->PC):XA b=ai2 b:=rfl
def awb (r:Realm)(hr:r.cities.length<=100000)(c:Case)(h2:c.file.facts.length<=100000)(h3:c.file.alters.length<=100000):aq T 141 [aX r,eZ c] (cells (eF r c)):=by
 refine zyw 142 azn ?_;rw[azm];simp[ai2];by_cases hb:((((c.sign<0\/(c.file.signs.length:Int)<=c.sign)\/c.holder< -1)\/(c.file.signs.length:Int)<=c.holder)\/c.due< -1)\/100000<c.due
 .rw[if_pos hb];have hc:oq c=false:=by
   cases e:oq c with
   |false=>rfl
   |true=>
    exfalso;unfold oq mM aw at e;simp only[av,gJ,decide_eq_true_eq] at e;split at e<;>omega
  have hv:eF r c=[]:=by unfold eF;rw[hc];simp
  rw[hv];rfl
 rw[if_neg hb];have hc:oq c=true:=by
  unfold oq mM aw;simp only[av,gJ,decide_eq_true_eq];split<;>omega
 have hlen:c.sign.toNat<c.file.signs.length:=by omega
 obtain⟨s,dv⟩:∃s:Sign,s=c.file.signs[c.sign.toNat]:=⟨_,rfl⟩
 have ly:c.file.signs.getD c.sign.toNat default=s:=by rw[dv];simp[hlen]
 have hv:eF r c=if aw s.day 100001=true then BU r c s else[]:=by
  unfold eF;rw[ly,hc];simp
 rw[hv];simp[hlen,<-dv];refine⟨by omega,?_⟩;by_cases hd:s.day<0\/100000<s.day
 .rw[if_pos hd,if_neg (by simp[aw];omega)];rfl
 rw[if_neg hd,if_pos (by simp[aw];omega)];have B9:(if c.due=-1 then D.int 0 else D.int (i64.wrap (s.day-c.due)))=D.int (wQ s c.due):=by
  unfold wQ;by_cases h:c.due=-1
  .simp[h]
  .rw[if_neg h,if_neg h,bn (by omega)]
 simp[ajl];refine⟨_,vm _,?_⟩;simp[ajk,hlen,<-dv];refine⟨_,vm _,?_⟩;simp[ajj,hlen,<-dv];refine⟨_,vm _,?_⟩;simp[aji,hlen,<-dv];refine⟨_,vm _,?_⟩;simp[ajh,hlen,<-dv];refine⟨_,vm _,?_⟩;simp[ajg,hlen,<-dv];refine⟨_,vm _,?_⟩;simp[ajf,hlen,<-dv,B9];refine⟨_,vm _,?_⟩;simp[ajd,hlen,<-dv,B9];refine⟨_,xg _,?_⟩;simp[ajc,hlen,<-dv];refine⟨_,M0 _ _ (by omega),?_⟩;simp[ajb,hlen,<-dv];refine⟨_,xg _,?_⟩;simp[aja,hlen,<-dv];refine⟨_,M0 _ _ (by omega),?_⟩;simp[ai9,hlen,<-dv];refine⟨_,xg _,?_⟩;simp[ai8,hlen,<-dv];refine⟨_,M0 _ _ (by omega),?_⟩;simp[ai7,hlen,<-dv];refine⟨_,xg _,?_⟩;simp[ai6,hlen,<-dv];refine⟨_,xg _,?_⟩;simp[ai5,hlen,<-dv];refine⟨_,Uy r _ hr,?_⟩;simp[ai4,hlen,<-dv];refine⟨_,Uy r _ hr,?_⟩;simp[ajs,hlen,<-dv];refine⟨_,xg _,?_⟩;refine aN.forRounds c.file.alters.length (λk=>[.bool ((List.range k).any λj=>decide ((c.file.alters.getD j default).at_<=c.sign)),.int k]) (λ_=>[]) ?_ (λk hk=>?_) ?_
 .simp
 .have hw:=aV hk (by omega)
  have e:(List.range (k+1)).any (λj=>decide ((c.file.alters.getD j default).at_<=c.sign))=((List.range k).any (λj=>decide ((c.file.alters.getD j default).at_<=c.sign))||decide (c.file.alters[k].at_<=c.sign)):=by
   rw[OH,List.any_append];simp[hk]
  rw[e];generalize (List.range k).any (λj=>decide ((c.file.alters.getD j default).at_<=c.sign))=b;cases b<;>simp[ahN,Ns,hk,hw]
 have halt:(List.range c.file.alters.length).any (λj=>decide ((c.file.alters.getD j default).at_<=c.sign))=OY c.file c.sign:=rfl;rw[halt];have hF:=λk at_=>av9 c.file k at_ (by omega);have yO:(if c.holder<0 then D.int 0 else D.int c.holder)=D.int (mM c):=by unfold mM;split<;>rfl
 simp[ahN,Ns];simp[ajr,hlen,<-dv];refine⟨_,xg _,?_⟩;simp[ajq,hlen,<-dv];refine⟨_,M0 _ _ (by omega),?_⟩;simp[ajp,hlen,<-dv];refine⟨_,xg _,?_⟩;simp[ajo,hlen,<-dv,yO];refine⟨_,hF 0 _,?_⟩;simp[ajn,hlen,<-dv,yO];refine⟨_,hF 1 _,?_⟩;simp[ajm,hlen,<-dv,yO];refine⟨_,hF 2 _,?_⟩;simp[aje,hlen,<-dv,yO];refine⟨_,hF 3 _,?_⟩;simp[ai3,hlen,<-dv,yO];refine⟨_,hF 4 _,?_⟩;simp[cells,BU,tC,tD]
def ahs (r:Realm)(hr:r.cities.length<=100000)(c:Case)(hf:FewS c.file):aq T 122 [aX r,eZ c] (cells (eF r (bW c))):=by
 have g:=hf.at_ c.day;refine zyw 140 azS ?_;simp[XW];refine⟨_,ahi c.file c.day (by have:=hf.signs;omega) (by have:=hf.acts;omega) (by have:=hf.alters;omega) (by have:=hf.facts;omega),?_⟩;have hv:=awb r hr (bW c) (by have:=g.facts;show(cm c.file c.day).facts.length<=_;omega) (by have:=g.alters;show(cm c.file c.day).alters.length<=_;omega);simp;exact hv
def aws (s:Said):aq T 67 [nB s] (.int (tg s)):=by
 refine zyw 172 azU ?_;unfold tg;by_cases h:s.err=0
 .cases h2:s.cell.known<;>simp[Oh,h,h2]
 .simp[Oh,h]
def eB (r:Realm)(ak:Int)(c:Case):List Int:=if eF r (bW c)=[] then[] else gF r ak (bW c)
def ak8 {r:Realm}(h:eO r=0)(i:Nat)(hi:i<r.cities.length):nz r r.cities[i]=true:=by
 unfold eO at h;rw[NP] at h;have h1:=h (fa (fH r) 40 (ot r)) (by simp);unfold fa at h1;split at h1
 .cases h1
 have h2:=aa6 h1 i (by simpa [fH] using hi);have h3:=(BP h2).2;unfold ot at h3;simpa [hi] using h3
def ale {r:Realm}(h:eO r=0)(i:Nat)(hi:i<r.cities.length):0<=r.cities[i].order/\r.cities[i].order<r.orders.length:=by
 have:=ak8 h i hi;unfold nz at this;simp only[av] at this;obtain⟨⟨_,⟨⟨_,h2⟩,_⟩⟩,_⟩:=this;simpa [aw] using h2
def Gw {r:Realm}(h:eO r=0)(c:Int):dZ r c=-1\/(0<=dZ r c/\dZ r c<r.orders.length):=by
 unfold dZ;split
 .rename_i hc;have mE:0<=c/\c<r.cities.length:=by simpa [aw] using hc
  have hl:c.toNat<r.cities.length:=by omega
  right;have:=ale h c.toNat hl;simpa [hl] using this
 .exact .inl rfl
def aA0 {q:Int}(h:q<0\/22<=q):(eE q).2=false:=by unfold eE;rw[if_pos h]
def aA1 {q:Int}(h:¬(q<0\/22<=q)):(eE q).2=true:=by unfold eE;rw[if_neg h];split<;>rfl
def ade {r:Realm}{ak q:Int}{c:Case}(h:eB r ak c=[]\/q<0\/22<=q):lT r ak q c=Gn:=by
 have e:(hH r ak q c)=(Gn,[]):=by
  unfold hH;by_cases h1:eF r (bW c)=[]
  .rw[if_pos h1]
  rw[if_neg h1];cases h2:(eE q).2
  .rw[if_pos rfl]
  rw[if_neg (by simp)];rcases h with h|h
  .unfold eB at h;rw[if_neg h1] at h;rw[if_pos h]
  .rw[aA0 h] at h2;cases h2
 unfold lT;rw[e];rfl
structure Joined (r:Realm) (ak q:Int) (c:Case):Prop where
 vars:(eF r (bW c)).length=20
 sign:0<=c.sign/\c.sign<(cm c.file c.day).signs.length
 who:0<=(cl (cm c.file c.day) c.sign).who/\(cl (cm c.file c.day) c.sign).who<r.firms.length
 places:eB r ak c=[ak,dZ r (cl (cm c.file c.day) c.sign).city,dZ r c.file.bill.pay,dZ r c.file.bill.city,dZ r (r.firms.getD (cl (cm c.file c.day) c.sign).who.toNat default).city]
 path:(dc r ak q (eB r ak c)).1≠[]
 ask:lT r ak q c=if(dc r ak q (eB r ak c)).2=0 then⟨(lS (jR r (cE (dc r ak q (eB r ak c)).1)) q (eF r (bW c))).1,cE (dc r ak q (eB r ak c)).1,(dc r ak q (eB r ak c)).1,(lS (jR r (cE (dc r ak q (eB r ak c)).1)) q (eF r (bW c))).2⟩
  else⟨cX,-1,(dc r ak q (eB r ak c)).1,(dc r ak q (eB r ak c)).2⟩
def adn (r:Realm)(q:Int)(l:List Int):∀(n:Nat) (p:List Int),p≠[]->(jo r q l n p).1≠[]
 |0,p,h=>h
 |n+1,p,h=>by
  rw[Gf];split
  .exact h
  split
  .simp
  split
  .simp
  .exact adn r q l n _ (by simp)
def arB {r:Realm}(hr:Right r)(hc:eO r=0){ak q:Int}{c:Case}(h:eB r ak c≠[])(hq:¬(q<0\/22<=q)):Joined r ak q c:=by
 have hv:eF r (bW c)≠[]:=λe=>h (by unfold eB;rw[if_pos e]);have dB:eB r ak c=gF r ak (bW c):=by unfold eB;rw[if_neg hv]
 have hp:gF r ak (bW c)≠[]:=by rw[<-dB];exact h
 have hb:¬lg r ak (bW c):=λe=>hp (by unfold gF;rw[if_pos e]);have hn:hasB (fg r ak (bW c)) (-1)=false:=by
  cases e:hasB (fg r ak (bW c)) (-1) with
  |false=>rfl
  |true=>exact absurd (by unfold gF;rw[if_neg hb,if_pos e]) hp
 have ho:gF r ak (bW c)=fg r ak (bW c):=by unfold gF;rw[if_neg hb,hn];simp
 have bE:∀x,x∈fg r ak (bW c)->0<=x/\x<r.orders.length:=by
  intro x hx
  have aF:x≠-1:=λe=>by
   subst e;have:hasB (fg r ak (bW c)) (-1)=true:=by simpa [hasB] using hx
   rw[hn] at this;cases this
  unfold fg at hx;simp only[cQ,List.not_mem_nil,or_false] at hx;unfold lg at hb;rcases hx with rfl|rfl|rfl|rfl|rfl
  .omega
  all_goals
   rcases Gw hc _ with e|e
   .exact absurd e aF
   .exact e
 have Lj:j9 r ak q (fg r ak (bW c))=true:=by
  have hf:=bE ak (by simp[fg]);have hl:(fg r ak (bW c)).length=5:=rfl;unfold j9;rw[av];constructor
  .simp[hl];omega
  .rw[jb,Ov];intro k hk;have bh:=cu.1 hk;have:=bE ((fg r ak (bW c))[k]) (cG bh);simp[Gx,bh];omega
 have uH:dc r ak q (eB r ak c)=jo r q (eB r ak c) r.orders.length [ak]:=by
  unfold dc;rw[dB,ho,if_pos ⟨Lj,rfl⟩]
 refine⟨?_,Zp hv,?_,by rw[dB,ho];rfl,by rw[uH];exact adn _ _ _ _ _ (by simp),?_⟩
 .unfold eF at hv ⊢;split at hv
  .rename_i hh;rw[if_pos hh];simp[BU,tC,tD]
  .exact absurd rfl hv
 .unfold lg at hb;have e1:(bW c).file=cm c.file c.day:=rfl;have e2:(bW c).sign=c.sign:=rfl;rw[e1,e2] at hb;omega
 .have e:hH r ak q c=(⟨cX,if(dc r ak q (eB r ak c)).2=0 then cE (dc r ak q (eB r ak c)).1 else-1,(dc r ak q (eB r ak c)).1,(dc r ak q (eB r ak c)).2⟩,eF r (bW c)):=by
   unfold hH;rw[if_neg hv,aA1 hq,if_neg (by simp),if_neg hp,dB]
  have wy:(eB r ak c).length<=100000:=by rw[dB,ho];simp[fg]
  have Rm:=LY hr (a:=ak) (q:=q) (l:=eB r ak c) wy;unfold lT;rw[e];generalize dc r ak q (eB r ak c)=L at*;by_cases h0:L.2=0
  .have:=(Rm h0).2;simp only[h0,if_true];rw[if_neg (by omega)]
  .simp[h0]
def akx (f:File)(day:Int){i:Nat}(hi:i<(cm f day).signs.length):∃h:i<f.signs.length,(cm f day).signs[i]=f.signs[i]:=by
 obtain⟨m,hm,e,_,_⟩:=Ad (λs:Sign=>decide (s.day<=day)) f.signs;have e':(cm f day).signs=f.signs.take m:=e;have h1:i<f.signs.length:=by rw[e',ed] at hi;omega
 refine⟨h1,?_⟩;simp only[e',List.getElem_take]
def ajt:PT:=
 (.call ⟨[],[(8,(.setn o8 (pi 3) 0 Dc))]⟩ [] 79 134 [(au 8 o3),(pc (pn (pc o3 3) (pc o7 2)) 1)] (.chk (aj o8 (pi 4)) (.brk ⟨[(9,(pi 0))],[(8,(.setn o8 (pi 4) 0 r79))]⟩ (adR b) (.ret o8))))
def aju:PT:=
 (.call ⟨[],[(8,(.setn o8 (pi 2) 0 qs))]⟩ [] 68 134 [(au 8 o3),(pc o5 9)] (.chk (aj o8 (pi 3)) (.chk (aj (pc o3 3) (pc o7 2)) (ajt b))))
def ajv:PT:=
 (.call ⟨[],[(8,(.setn o8 (pi 1) 0 Da))]⟩ [] 60 134 [(au 8 o3),(pc o5 10)] (.chk (aj o8 (pi 2)) (aju b)))
def ajw:PT:=
 (.call ⟨[(8,pN)],[(8,(.setn (.rep (pi 5) (pi 0)) (pi 0) 0 r1)),(7,(.setc z9 0 (pn (pc o5 15) (pc o5 19))))]⟩ [] 52 134 [(au 8 o3),(pc (.setc z9 0 (pn (pc o5 15) (pc o5 19))) 7)] (.chk (aj o8 (pi 1)) (ajv b)))
def ajx:PT:=
 (.call ⟨[(6,pL)],[(5,(.mk [r2])),(3,(.mk [r0]))]⟩ [] 12 122 [(au 8 (.mk [r0])),(au 24 (.mk [r2]))] (.ite (.pick (.pick (ab (.llen bG) (pi 0)) pT (af r1 (pi 0))) pT (bP r1 (.llen (pc o3 4)))) (.ret pL) (.chk (aj (pc o5 15) (pc o5 19)) (.ite (.pick (af (pc (.setc z9 0 (pn (pc o5 15) (pc o5 19))) 2) (pi 0)) pT (bP (pc (.setc z9 0 (pn (pc o5 15) (pc o5 19))) 2) (.llen (pc o3 3)))) (.ret pL) (.chk (.an (bP (pi 5) (pi 0)) (bl (pi 5) (pi 4294967296))) (.chk (ab (pi 5) (pi 5)) (.chk (aj (.rep (pi 5) (pi 0)) (pi 0)) (ajw b))))))))
def azV (b:Nat->PC):XY b=ajx b:=rfl
def awt (r:Realm)(hc:eO r=0)(hr:r.cities.length<=100000)(ak:Int)(c:Case)(hf:FewS c.file):aq T 118 [aX r,.int ak,eZ c] (ints (eB r ak c)):=by
 have hC:=ahs r hr c hf;refine zyw 139 azW ?_;rw[azV];simp[ajx];unfold eB;by_cases hv:eF r (bW c)=[]
 .rw[if_pos hv];rw[hv] at hC;refine⟨_,hC,?_⟩;simp;rfl
 rw[if_neg hv];refine⟨_,hC,?_⟩;have ly:=Zp hv;have LQ:c.sign.toNat<(cm c.file c.day).signs.length:=by
  have:(bW c).file.signs=(cm c.file c.day).signs:=rfl;have e2:(bW c).sign=c.sign:=rfl;rw[this,e2] at ly;omega
 obtain⟨FY,dv⟩:=akx c.file c.day LQ;have h0:0<=c.sign:=ly.1;simp[hv];have hp:gF r ak (bW c)=if lg r ak (bW c) then[] else if hasB (fg r ak (bW c)) (-1)=true then[] else fg r ak (bW c):=rfl;have K8:lg r ak (bW c)↔((c.file.signs[c.sign.toNat].who<0\/(r.firms.length:Int)<=c.file.signs[c.sign.toNat].who)\/ak<0)\/(r.orders.length:Int)<=ak:=by
  have e:cl (bW c).file (bW c).sign=c.file.signs[c.sign.toNat]:=by
   show(cm c.file c.day).signs.getD c.sign.toNat default=_;rw[<-dv];simp[LQ]
  unfold lg;rw[e];constructor
  .rintro(h|h|h|h)<;>simp[h]
  .rintro(((h|h)|h)|h)<;>simp[h]
 by_cases hfo:ak<0\/(r.orders.length:Int)<=ak
 .rw[if_pos hfo,hp,if_pos (K8.2 (by omega))];rfl
 rw[if_neg hfo];obtain⟨sg,p7⟩:∃sg:Sign,sg=c.file.signs[c.sign.toNat]:=⟨_,rfl⟩
 rw[<-p7] at K8;simp[FY,<-p7];refine⟨by omega,?_⟩;by_cases hw:sg.who<0\/(r.firms.length:Int)<=sg.who
 .rw[if_pos hw,hp,if_pos (K8.2 (.inl (.inl hw)))];rfl
 rw[if_neg hw];have dA:¬lg r ak (bW c):=λe=>by have:=K8.1 e;omega
 have zc:sg.who.toNat<r.firms.length:=by omega
 have ho:fg r ak (bW c)=[ak,dZ r sg.city,dZ r c.file.bill.pay,dZ r c.file.bill.city,dZ r r.firms[sg.who.toNat].city]:=by
  have e:cl (bW c).file (bW c).sign=sg:=by
   show(cm c.file c.day).signs.getD c.sign.toNat default=_;rw[p7,<-dv];simp[LQ]
  unfold fg;rw[e];simp[zc];exact⟨rfl,rfl⟩
 rw[hp,if_neg dA,ho];have jq:∀x:Int,aq T 134 [aX r,.int x] (.int (dZ r x)):=λx=>Uy r x hr;simp[ajw,FY,<-p7];refine⟨_,jq _,?_⟩;simp[ajv,FY,<-p7];refine⟨_,jq _,?_⟩;simp[aju,FY,<-p7];refine⟨_,jq _,?_⟩;simp[ajt,FY,<-p7,zc];refine⟨by omega,_,jq _,?_⟩;have o1:=Gw hc sg.city;have o2:=Gw hc c.file.bill.pay;have o3:=Gw hc c.file.bill.city;have o4:=Gw hc r.firms[sg.who.toNat].city;generalize dZ r sg.city=x1 at*;generalize dZ r c.file.bill.pay=x2 at*;generalize dZ r c.file.bill.city=x3 at*;generalize dZ r r.firms[sg.who.toNat].city=x4 at*;have hR:∀x,(x=-1\/0<=x)->¬0<=x->x=-1:=λx h1 h2=>by omega
 have aF:¬ak<0:=by omega
 obtain⟨R,KW⟩:∃R,R=ints (if hasB [ak,x1,x2,x3,x4] (-1)=true then[] else[ak,x1,x2,x3,x4]):=⟨_,rfl⟩
 rw[<-KW];have arn:(x1=-1\/x2=-1\/x3=-1\/x4=-1)->R=.list []:=by
  intro h;have:hasB [ak,x1,x2,x3,x4] (-1)=true:=by
   simp[hasB];omega
  rw[KW,this];rfl
 have eK:¬(x1=-1\/x2=-1\/x3=-1\/x4=-1)->R=ints [ak,x1,x2,x3,x4]:=by
  intro h;have:hasB [ak,x1,x2,x3,x4] (-1)=false:=by
   cases e:hasB [ak,x1,x2,x3,x4] (-1) with
   |false=>rfl
   |true=>
    exfalso;simp[hasB] at e;omega
  rw[KW,this];rfl
 clear KW;refine aN.scan 5 (λk=>0<=[ak,x1,x2,x3,x4].getD k 0) (λk=>[.list [],.int k]) (λ_=>[]) ?_ (λk hk hj ho=>?_) (λk hk hj ho=>?_) (λhj=>?_)
 .simp
 .have h5:k=0\/k=1\/k=2\/k=3\/k=4:=by omega
  rcases h5 with rfl|rfl|rfl|rfl|rfl<;>simp at ho<;>simp[Vr,Hp,Int.not_lt.2 ho,show i64.wrap 2=2 by decide,show i64.wrap 3=3 by decide,show i64.wrap 4=4 by decide,show i64.wrap 5=5 by decide,show i64.wrap 1=1 by decide]
 .have h5:k=0\/k=1\/k=2\/k=3\/k=4:=by omega
  rcases h5 with rfl|rfl|rfl|rfl|rfl<;>simp at ho<;>simp[Vr,Hp,ho]
  .omega
  all_goals exact(arn (by omega)).symm
 .have a1:=hj 1 (by omega);have a2:=hj 2 (by omega);have a3:=hj 3 (by omega);have a4:=hj 4 (by omega);simp at a1 a2 a3 a4;rw[eK (by omega)];simp[Vr,Hp]
  try rfl
def ON (r:Realm):Prop:=∀o,o∈r.orders->o.choices.Pairwise λa b=>a.ask≠b.ask
def qL (q:Int)(ch:Choice):Bool:=decide (ch.ask=q)
def aa3 {q:Int}:∀{l:List Choice},l.Pairwise (λa b=>a.ask≠b.ask)->l.find? (mO q)=(l.find? (qL q)).bind λch=>if ch.by_=0 then none else some ch
 |[],_=>rfl
 |ch::l,h=>by
  rw[ZT] at h;by_cases h1:ch.ask=q
  .have hn:∀x,x∈l->x.ask≠q:=λx hx e=>h.1 x hx (h1.trans e.symm);have FI:l.find? (mO q)=none:=by
        rw[xP];intro x hx;simp[mO,hn x hx]
   by_cases h2:ch.by_=0
   .simp[Oz,mO,qL,h1,h2];have:=FI;unfold mO at this;simpa using this
   .simp[Oz,mO,qL,h1,h2]
  .have ih:=aa3 (q:=q) h.2;simp[Oz,mO,qL,h1];unfold mO qL at ih;exact ih
def ahr (r:Realm)(l:List Int)(hr:r.orders.length<=100000)(hl:l.length=5)(hx:∀x,x∈l->0<=x/\x<r.orders.length):aq T 135 [aX r,ints l] (.bool true):=by
 have dP:i64.wrap ((r.orders.length:Int)-1)=(r.orders.length:Int)-1:=bn (by omega);refine zyw 150 azP ?_;simp[XT];refine aN.forRounds l.length (λk=>[.bool false,.int k]) (λ_=>[]) ?_ (λk hk=>?_) ?_
 .simp
 .have hw:=aV hk (by omega);have bE:=hx _ (cG hk);have Sf:wi l[k] 0 ((r.orders.length:Int)-1)=true:=by simp[wi];omega
  simp[ahO,Nt,hk,hw,dP];refine⟨_,bJ _ _ _,?_⟩;simp[Sf,hw]
 .simp[ahO,Nt,hl]
def Qb (o:Order)(q:Int):Choice:=(o.choices.find? (qL q)).getD ⟨q,0,false⟩
def awm (o:Order)(q:Int)(hl:o.choices.length<=100000):aq T 155 [iO o,.int q] (ug (Qb o q)):=by
 refine zyw 152 azM ?_;simp[XQ];unfold Qb;refine aN.scan o.choices.length (λk=>qL q (o.choices.getD k default)=false) (λk=>[.int k]) (λ_=>[.agg [.int 0,.int 0,.bool false]]) ?_ (λk hk hj aC=>?_) (λk hk hj aC=>?_) (λhj=>?_)
 .simp
 .have hw:=aV hk (by omega);have hn:¬o.choices[k].ask=q:=by simpa [qL,hk] using aC
  simp[Vo,Hn,hk,hw,hn]
 .have eJ:=v5 hk (by simpa [hk] using aC) (λj bR=>by have:=hj j bR;simpa [show j<o.choices.length by omega] using this);have hc:o.choices[k].ask=q:=by simpa [qL,hk] using aC
  rw[eJ];simp[Vo,Hn,hk,hc];subst hc;rfl
 .have eJ:=yr (l:=o.choices) (p:=qL q) (λj bR=>by have:=hj j bR;simpa [bR] using this);rw[eJ];simp[Vo,Hn]
  try rfl
def awo (r:Realm)(kg:xN r)(du:ON r)(hr:r.orders.length<=100000)(a q:Int)(l:List Int)(hf:j9 r a q l=true)(hq:0<=q/\q<22):
 aq T 136 [aX r,.int a,.int q,ints l] (.tup [.int (fG r a q l).1,.bool (fG r a q l).2]):=by
 obtain⟨ha,wy,hx,_⟩:=BO hf;have dP:i64.wrap ((r.orders.length:Int)-1)=(r.orders.length:Int)-1:=bn (by omega);have iS:a.toNat<r.orders.length:=by omega
 obtain⟨bo,lX⟩:=kg _ (cG iS);have hpw:=du _ (cG iS);have yZ:jR r a=r.orders[a.toNat]:=by simp[jR,iS]
 have jL:=aa3 (q:=q) hpw;have Se:wi a 0 ((r.orders.length:Int)-1)=true:=by simp[wi];omega
 have F5:wi q 0 21=true:=by simp[wi];omega
 refine zyw 151 azO ?_;simp[XS,dP];refine⟨_,ahr r l hr wy hx,?_⟩;simp;refine⟨_,bJ _ _ _,?_⟩;simp[Se];refine⟨_,bJ _ _ _,?_⟩;simp[F5,iS];refine⟨ha,_,awm _ q bo,?_⟩;unfold fG;rw[yZ,jL];unfold Qb;cases eJ:r.orders[a.toNat].choices.find? (qL q) with
 |none=>simp
 |some ch=>
  have hb:=lX _ (vN eJ);have B1:ch.by_.toNat<l.length:=by omega
  by_cases h0:ch.by_=0
  .simp[h0]
  .simp[h0,B1];omega
def axa {l:List Int}{a b:Int}(h:rising l a b=true):l.Pairwise (·<·):=by
 unfold rising at h;rw[xX] at h
 have step:∀i (h1:i+1<l.length),l[i]'(by omega)<l[i+1]:=by
  intro i h1;have:=h (i+1) h1;have hi:i<l.length:=by omega
  simp[pj,h1,hi] at this;exact this.2
 rw[List.pairwise_iff_getElem];intro i j hi hj dt;obtain⟨d,rfl⟩:∃d,j=i+1+d:=⟨j-i-1,by omega⟩
 clear dt
 induction d with
 |zero=>exact step i hj
 |succ d ih=>exact Int.lt_trans (ih (by omega)) (step (i+1+d) hj)
def aut {r:Realm}(h:eO r=0):ON r:=by
 intro o ho;obtain⟨k,hk,rfl⟩:=jV ho;have h1:=aaz h k hk;unfold qh at h1;simp only[av] at h1;have h2:=axa h1.2.1;unfold xY at h2;rw[List.pairwise_map] at h2;exact h2.imp λh=>by omega
def rW (N:Nat)(p:List Int):D:=.list ((List.range N).map λ(i:Nat)=>D.bool (hasB p (i:Int)))
def axr {N:Nat}{p:List Int}{k:Nat}(hk:k<N):(rW N p).l[k]?.getD D.none=D.bool (hasB p (k:Int)):=by
 show((List.range N).map λ(i:Nat)=>D.bool (hasB p (i:Int)))[k]?.getD D.none=_;simp[hk]
def axs (N:Nat)(p:List Int):(rW N p).l.length=N:=by
 show((List.range N).map λ(i:Nat)=>D.bool (hasB p (i:Int))).length=N;simp
def aiq {N:Nat}{p:List Int}{x:Int}(h0:0<=x):D.list ((rW N p).l.set x.toNat (D.bool true))=rW N (p++[x]):=by
 show D.list (((List.range N).map λ(i:Nat)=>D.bool (hasB p (i:Int))).set x.toNat (D.bool true))=_;unfold rW
 congr 1
 apply Oy
 .simp
 .intro i h1 h2;simp at h2;rw[List.getElem_set];by_cases h:x.toNat=i
  .have hx:x=(i:Int):=by omega
   simp[h,hx,hasB]
  .have hx:¬(i:Int)=x:=by omega
   have e:hasB (p++[x]) (i:Int)=hasB p (i:Int):=by
        simp[hasB,hx];intro e;exact absurd e.symm hx
   simp[h,e]
@[simp] def aHL (x y:Bool):vz (D.bool x) 0 (D.bool y)=D.bool y:=zyz
def awn (r:Realm)(kg:xN r)(du:ON r)(hn:r.orders.length<=100000)(a q:Int)(l:List Int)(hf:j9 r a q l=true)(hq:0<=q/\q<22)(apY:l.getD 0 0=a):
 aq T 120 [aX r,.int a,.int q,ints l] (.tup [ints (dc r a q l).1,.int (dc r a q l).2]):=by
 obtain⟨ha,wy,hx,q7⟩:=BO hf;have h0:0<l.length:=by omega
 have uF:l[0]=a:=by simpa [h0] using apY
 have hE:dc r a q l=jo r q l r.orders.length [a]:=by unfold dc;rw[if_pos ⟨hf,by simp[h0,uF]⟩]
 have dP:i64.wrap ((r.orders.length:Int)-1)=(r.orders.length:Int)-1:=bn (by omega);have Se:wi a 0 ((r.orders.length:Int)-1)=true:=by simp[wi];omega
 have F5:wi q 0 21=true:=by simp[wi];omega
 have iS:a.toNat<r.orders.length:=by omega
 rw[hE];refine zyw 149 azN ?_;simp[XR,dP];refine⟨_,ahr r l hn wy hx,?_⟩;simp;refine⟨_,bJ _ _ _,?_⟩;simp[Se];refine⟨_,bJ _ _ _,?_⟩;simp[F5,h0,uF];refine⟨by omega,ha,?_⟩;refine aN.forLoop (α:=Nat×List Int) (λs vr vo=>(∃x,vr=[.list [],.int 0,x,.int ((r.orders.length-s.1:Nat):Int)])/\vo=[rW r.orders.length s.2,ints s.2]/\s.2.Nodup/\(∀x,x∈s.2->0<=x/\x<(r.orders.length:Int))/\s.2≠[]/\s.1+s.2.length=r.orders.length+1/\jo r q l s.1 s.2=jo r q l r.orders.length [a]) (λs=>s.1) (r.orders.length,[a]) ?_ ?_
 .have RV:D.list ((List.replicate r.orders.length (D.bool false)).set a.toNat (D.bool true))=rW r.orders.length [a]:=by
   have h1:(rW r.orders.length [])=D.list (List.replicate r.orders.length (D.bool false)):=by
        unfold rW
        congr 1
        apply Oy
        .simp
        .intro i h1 h2;simp[hasB]
   have h2:=aiq (N:=r.orders.length) (p:=[]) (x:=a) ha.1;rw[h1] at h2;exact h2
  simp[ints,iS,RV];exact ha
 .rintro⟨n,p⟩ vr vo ⟨⟨x0,rfl⟩,rfl,bz,bE,aF,hlen,uH⟩;simp only at*;have dB:p.length<=r.orders.length:=MD _ p bz bE;have LM:0<p.length:=Am.mpr aF;obtain⟨m,rfl⟩:∃m,n=m+1:=⟨n-1,by omega⟩
  have ao:p.length-1<p.length:=by omega
  have gR:cE p=p[p.length-1]:=by simp[cE,ao]
  have oE:=bE _ (cG ao);rw[<-gR] at oE;have yz:=awo r kg du hn (cE p) q l (q7 _ oE.1 oE.2) hq;obtain⟨_,fc,fe⟩:=Ou r kg (cE p) q l (by omega) (q7 _ oE.1 oE.2);have yU:((p.length:Int)-1).toNat=p.length-1:=by omega
  have zd:i64.wrap ((p.length:Int)-1)=(p.length:Int)-1:=bn (by omega);rw[<-uH,Gf];obtain⟨L,hL⟩:∃L,L=fG r (cE p) q l:=⟨_,rfl⟩
  rw[<-hL] at yz fc fe ⊢;obtain⟨to,whole⟩:=L;simp only at yz fc fe;have rp:to.toNat<r.orders.length:=by omega
  have yZ:jR r to=r.orders[to.toNat]:=by simp[jR,rp]
  simp only[yZ];have hk:((r.orders.length-(m+1):Nat):Int)<=r.orders.length:=by omega
  have hkw:i64.wrap (((r.orders.length-(m+1):Nat):Int)+1)=((r.orders.length-m:Nat):Int):=by rw[bn (by omega)];omega
  simp[awN,Vp,zd,yU,ao,<-gR,ints,hk];refine⟨by omega,_,yz,by omega,?_⟩;by_cases h1:to=cE p
  .simp[h1]
  simp[h1];refine⟨by omega,?_⟩;cases whole
  .simp
  have ly:=axr (N:=r.orders.length) (p:=p) rp;have F0:((to.toNat:Nat):Int)=to:=by omega
  rw[F0] at ly
  have dv:∀h:to.toNat<(rW r.orders.length p).l.length,(rW r.orders.length p).l[to.toNat]=D.bool (hasB p to):=λh=>by
   rw[bL h] at ly;exact ly
  simp[axs,dv,rp,fc,fe,aiq];cases h2:hasB p to
  .have cS:to∉p:=λhm=>by
        have:hasB p to=true:=by simp[hasB,hm]
        rw[h2] at this;cases this
   simp[h2];refine⟨m,by omega,hkw,p++[to],⟨rfl,by simp⟩,?_,?_,by simp,by simp;omega,rfl⟩
   .exact An.mpr ⟨bz,by simp,λx hx y hy=>by simp at hy;subst hy;exact λe=>cS (e▸hx)⟩
   .intro x hx;rcases dR.mp hx with h|h
    .exact bE x h
    .simp at h;subst h;exact⟨fc,fe⟩
  .cases h3:r.orders[to.toNat].accepts<;>simp[h2,h3,rp]
def SO (L:Nat)(t:Tm):1<=bu L t:=wX L t
def aiB:∀(L:Nat) (t:Tm) (n:Int),0<=n->n<=60->(bu L t<=n->gI L t n=n-bu L t)/\(n<bu L t->gI L t n<0)
 |0,t,n,h0,h1=>by
  refine⟨λh=>?_,λ_=>by simp[gI]⟩;simp[bu] at h;omega
 |L+1,t,n,h0,h1=>by
  have key:∀(l:List Tm) (m:Int),1<=m->m<=60->
    (de (bu L) l m<=n->l.foldl (λm a=>if 0<=m then gI L a m else m) (n-m)=n-de (bu L) l m)/\(n<de (bu L) l m->l.foldl (λm a=>if 0<=m then gI L a m else m) (n-m)<0):=by
   intro l
   induction l with
   |nil=>
    intro m yV yW;simp only[de,ZQ];exact⟨λ_=>trivial,λh=>by omega⟩
   |cons a l ih=>
    intro m yV yW;have hp:=SO L a;simp only[Ak,de];by_cases hn:0<=n-m
    .rw[if_pos hn];obtain⟨s1,s2⟩:=aiB L a (n-m) hn (by omega);by_cases hle:bu L a<=n-m
     .rw[s1 hle];have e:n-m-bu L a=n-(m+bu L a):=by omega
      rw[e,if_neg (by omega)];exact ih (m+bu L a) (by omega) (by omega)
     .have aco:=s2 (by omega);rw[NV L l _ aco];have yN:n<(if 60<m+bu L a then m+bu L a else de (bu L) l (m+bu L a)):=by
        split
        .omega
        .have:m+bu L a<=de (bu L) l (m+bu L a):=by
             have gen:∀(l:List Tm) (x:Int),x<=de (bu L) l x:=by
               intro l
               induction l with
               |nil=>intro x;simp[de]
               |cons b l kP=>
                intro x;have hb:=SO L b;simp only[de];split
                .omega
                .have:=kP (x+bu L b);omega
             exact gen l _
         omega
      exact⟨λh=>by omega,λ_=>aco⟩
    .rw[if_neg hn,NV L l _ (by omega)];have gen:∀(l:List Tm) (x:Int),x<=de (bu L) l x:=by
       intro l
       induction l with
       |nil=>intro x;simp[de]
       |cons b l kP=>
        intro x;have hb:=SO L b;simp only[de];split
        .omega
        .have:=kP (x+bu L b);omega
     have yN:n<(if 60<m+bu L a then m+bu L a else de (bu L) l (m+bu L a)):=by
       have:=gen l (m+bu L a);split<;>omega
     exact⟨λh=>by omega,λ_=>by omega⟩
  show(de (bu L) t.args 1<=n->_)/\(n<de (bu L) t.args 1->_)
  exact key t.args 1 (by omega) (by omega)
def aiA (t:Tm):gI 8 t 60<0↔60<bu 8 t:=by
 obtain⟨h1,h2⟩:=aiB 8 t 60 (by omega) (by omega);constructor
 .intro h;refine sk λhc=>?_;have:=h1 (by omega);omega
 .exact h2
def fw (op:Int):Int:=if op=0\/op=1\/op=2 then 0 else if op=3 then 1 else if op=6 then 3 else 2
def awf (op:Int):aq T 178 [.int op] (.int (fw op)):=by
 refine zyw 158 azy ?_;unfold fw;by_cases h0:op=0
 .simp[xB,h0]
 by_cases h1:op=1
 .simp[xB,h0,h1]
 by_cases h2:op=2
 .simp[xB,h0,h1,h2]
 by_cases h3:op=3
 .simp[xB,h0,h1,h2,h3]
 by_cases h6:op=6
 .simp[xB,h0,h1,h2,h3,h6]
 .simp[xB,h0,h1,h2,h3,h6]
def ahl (v:Int):aq T 181 [.int v] (.tup [.int (kY v).1,.bool (kY v).2]):=by
 refine zyw 160 azx ?_;unfold kY;by_cases h1:v<0
 .simp[DI,h1]
 by_cases h2:19<v
 .simp[DI,h1,h2,show 20<=v by omega]
 by_cases h3:v<7
 .simp[DI,h1,h2,h3,show ¬20<=v by omega,show v<=6 by omega]
 .simp[DI,h1,h2,h3,show ¬20<=v by omega,show ¬v<=6 by omega]
def awh (t:Tm)(ha:t.args.length=0)(ho:t.op=0\/t.op=1\/t.op=2):aq T 179 [dm t] (.tup [.int (sZ t).1,.int (sZ t).2]):=by
 have hv:=ahl t.n;refine zyw 159 azB ?_;unfold sZ;rw[if_neg (by omega)];by_cases h0:t.op=0
 .have hc:mA t.n≠t.n↔t.n< -1099511627776\/1099511627776<t.n:=by unfold mA;omega
  by_cases h:t.n< -1099511627776\/1099511627776<t.n
  .rw[if_pos h0,if_pos (hc.2 h)];simp[xC,h0,h]
  .rw[if_pos h0,if_neg (λe=>h (hc.1 e))];simp[xC,h0,h]
 by_cases h1:t.op=1
 .by_cases h:t.n=0
  .simp[xC,h0,h1,h]
  by_cases h':t.n=1
  .simp[xC,h0,h1,h']
  .have:t.n<0\/1<t.n:=by omega
   simp[xC,h0,h1,h,h',this]
 .simp[xC,h0,h1];refine⟨_,hv,?_⟩;cases h2:(kY t.n).2<;>simp[h2]
def Cr (op:Int)(l:List Int):Int×Bool:=
 if op=3 then(1,decide (l.getD 0 0=1)) else if op=4\/op=5 then(1,decide (l.getD 0 0=1)&&decide (l.getD 1 0=1))
 else if op=6 then(l.getD 1 0,decide (l.getD 0 0=1)&&decide (l.getD 1 0=l.getD 2 0)) else if op=7 then(1,decide (l.getD 0 0=0)&&decide (l.getD 1 0=0))
 else if op=8 then(1,decide (l.getD 0 0=l.getD 1 0)) else(0,decide (l.getD 0 0=0)&&decide (l.getD 1 0=0))
def awg (op:Int)(l:List Int)(h1:1<=l.length)(h2:op≠3->2<=l.length)(h3:op=6->3<=l.length):aq T 180 [.int op,ints l] (.tup [.int (Cr op l).1,.bool (Cr op l).2]):=by
 have g0:0<l.length:=by omega
 refine zyw 161 azA ?_;unfold Cr;by_cases o3:op=3
 .simp[vB,o3,g0]
 have g1:1<l.length:=by have:=h2 o3;omega
 have dp:(1:Int)<l.length:=by omega
 by_cases o4:op=4
 .by_cases e0:l[0]=1<;>simp[vB,o4,g0,g1,dp,e0]
 by_cases o5:op=5
 .by_cases e0:l[0]=1<;>simp[vB,o5,g0,g1,dp,e0]
 by_cases o6:op=6
 .have g2:2<l.length:=by have:=h3 o6;omega
  have kc:(2:Int)<l.length:=by omega
  by_cases e0:l[0]=1<;>simp[vB,o6,g0,g1,g2,dp,kc,e0]
 by_cases o7:op=7
 .by_cases e0:l[0]=0<;>simp[vB,o7,g0,g1,dp,e0]
 by_cases o8:op=8
 .simp[vB,o8,g0,g1,dp]
 .by_cases e0:l[0]=0<;>simp[vB,o3,o4,o5,o6,o7,o8,g0,g1,dp,e0]
def arN {α:Type}{l:List α}(h:l.length=1):∃a,l=[a]:=by
 match l,h with
 |[a],_=>exact⟨a,rfl⟩
def arO {α:Type}{l:List α}(h:l.length=2):∃a b,l=[a,b]:=by
 match l,h with
 |[a,b],_=>exact⟨a,b,rfl⟩
def arP {α:Type}{l:List α}(h:l.length=3):∃a b c,l=[a,b,c]:=by
 match l,h with
 |[a,b,c],_=>exact⟨a,b,c,rfl⟩
def auf (t:Tm)(ks:List Int)(hk:ks.length=t.args.length)(dF:∀x,x∈ks->x=0\/x=1):s9 t ks=if t.op<0\/13<t.op then(0,1) else if(ks.length:Int)≠fw t.op\/(0<fw t.op/\t.n≠0) then(0,2) else
 if fw t.op=0 then sZ t else if(Cr t.op ks).2=false then(0,11) else((Cr t.op ks).1,0):=by
 unfold s9;by_cases h0:t.op<0\/13<t.op
 .rw[if_pos h0,if_pos h0]
 rw[if_neg h0,if_neg h0];by_cases hl:t.op=0\/t.op=1\/t.op=2
 .have ha:fw t.op=0:=by unfold fw;rw[if_pos hl]
  rw[if_pos hl,ha];by_cases hz:ks.length=0
  .rw[if_neg (by omega),if_pos rfl]
  .rw[if_pos (by omega)];unfold sZ;rw[if_pos (by omega)]
 rw[if_neg hl];have hr:3<=t.op/\t.op<=13:=by omega
 have K5:fw t.op=((dI t.op).1.length:Int):=by
  unfold fw dI;rw[if_neg hl];by_cases o3:t.op=3
  .simp[o3]
  by_cases o6:t.op=6
  .simp[o6]
  rw[if_neg o3,if_neg o6];split
  .omega
  split
  .rfl
  split
  .rfl
  split<;>rfl
 by_cases hc:ks.length≠(dI t.op).1.length\/t.n≠0
 .rw[if_pos hc,if_pos];rw[K5];have:1<=(dI t.op).1.length:=by
   unfold dI
   repeat' split
   all_goals simp
  omega
 have hB:¬((ks.length:Int)≠fw t.op\/(0<fw t.op/\t.n≠0)):=by rw[K5];omega
 rw[if_neg hc,if_neg hB];clear hB;have aF:fw t.op≠0:=by
  unfold fw;rw[if_neg hl]
  repeat' split
  all_goals omega
 rw[if_neg aF];have hlen:ks.length=(dI t.op).1.length:=by omega
 by_cases o3:t.op=3
 .simp[dI,o3] at hlen;obtain⟨a,rfl⟩:=arN hlen;rw[o3];rcases dF a (by simp) with rfl|rfl<;>rfl
 have two:ks.length=2->∃a b,ks=[a,b]/\(a=0\/a=1)/\(b=0\/b=1):=λh=>by
  obtain⟨a,b,rfl⟩:=arO h;exact⟨a,b,rfl,dF a (by simp),dF b (by simp)⟩
 by_cases o6:t.op=6
 .simp[dI,o6] at hlen;obtain⟨a,b,c,rfl⟩:=arP hlen;rcases dF a (by simp) with rfl|rfl<;>rcases dF b (by simp) with rfl|rfl<;>rcases dF c (by simp) with rfl|rfl<;>rw[o6]<;>rfl
 have acu:t.op=4\/t.op=5\/t.op=7\/t.op=8\/t.op=9\/t.op=10\/t.op=11\/t.op=12\/t.op=13:=by omega
 have rj:ks.length=2:=by
  rw[hlen];rcases acu with h|h|h|h|h|h|h|h|h<;>rw[h]<;>rfl
 obtain⟨a,b,rfl,ha,hb⟩:=two rj;rcases acu with h|h|h|h|h|h|h|h|h<;>rw[h]<;>rcases ha with rfl|rfl<;>rcases hb with rfl|rfl<;>rfl
def akm {op:Int}(h:fw op=0):op=0\/op=1\/op=2:=by
 unfold fw at h;split at h
 .assumption
 .exfalso
  repeat' split at h
  all_goals omega
def UF:∀(L:Nat) (t:Tm),t.OK->bu L t<=60->aq T 173 [dm t] (.tup [.int (bD L t).1,.int (bD L t).2])
 |0,t,ht,hm=>by simp[bu] at hm
 |L+1,t,ht,hm=>by
  refine zyw 157 azF ?_;obtain⟨hl,hp⟩:=Gl hm;simp[XJ];refine nT t.args.length (λk=>(bD L (t.args.getD k default)).2) (λk=>[.int 0,.int 0,.none,.int k]) (λk=>[ints ((t.args.map λa=>(bD L a).1).take k)]) ?_ (λk hk ho=>?_) (λk hk ho hb=>?_) (λhj=>?_)
  .simp[ints]
  .have hw:=aV hk (by omega);have cO:=cG hk;have fL:=UF L t.args[k] (ht.arg cO) (hp _ cO);have yM:(t.args.map λa=>(bD L a).1)[k]'(by simpa using hk)=(bD L t.args[k]).1:=by simp
   have y7:(t.args.map λa=>(bD L a).1).take (k+1)=(t.args.map λa=>(bD L a).1).take k++[(bD L t.args[k]).1]:=by
    rw[lR (by simpa using hk),yM]
   have hlen:((t.args.map λa=>(bD L a).1).take k).length=k:=by simp;omega
   rw[y7];generalize (t.args.map λa=>(bD L a).1).take k=A at*;simp[hk] at ho;rw[ho] at fL;generalize (bD L t.args[k]).1=kd at*;simp[Vl,Hk,hk];refine⟨_,fL,?_⟩;simp[hlen,hk,hw,ints];omega
  .have cO:=cG hk;have fL:=UF L t.args[k] (ht.arg cO) (hp _ cO);have hf:bD (L+1) t=(0,(bD L (t.args.getD k default)).2):=by
    rw[Et,hb,if_pos ho]
   rw[hf];simp[hk] at ho ⊢;simp[Vl,Hk,hk];refine⟨_,fL,?_⟩;simp[ho]
  .have hf:bD (L+1) t=s9 t (t.args.map λa=>(bD L a).1):=by
    rw[Et,hj];simp
   have dF:∀x,x∈(t.args.map λa=>(bD L a).1)->x=0\/x=1:=by
    intro x hx;obtain⟨a,ha,rfl⟩:=fq.1 hx;obtain⟨k,hk,rfl⟩:=jV ha;have hz:(bD L t.args[k]).2=0:=by
     have:=(QA.1 hj) k hk;simpa [hk] using this
    cases L with
    |zero=>have:=hp _ ha;simp[bu] at this
    |succ L=>exact(Eu (L:=L) (t:=t.args[k]) (k:=(bD (L+1) t.args[k]).1) (by rw[<-hz])).2
   rw[hf,auf t _ (by simp) dF];have uI:(t.args.map λa=>(bD L a).1).length=t.args.length:=by simp
   have e0:(t.args.map λa=>(bD L a).1).take t.args.length=t.args.map λa=>(bD L a).1:=by rw[<-uI,DY]
   rw[e0];generalize (t.args.map λa=>(bD L a).1)=ks at*;simp[Vl,Hk];by_cases h0:t.op<0\/13<t.op
   .have fA:t.op<0\/14<=t.op:=by omega
    simp[h0,fA]
   have fA:¬(t.op<0\/14<=t.op):=by omega
   simp[h0,fA];refine⟨_,awf t.op,?_⟩;by_cases h1:(ks.length:Int)≠fw t.op\/(0<fw t.op/\t.n≠0)
   .rw[if_pos h1];have cD:¬(ks.length:Int)=fw t.op\/(0<fw t.op/\¬t.n=0):=h1;simp[cD]
   rw[if_neg h1];have cD:¬(¬(ks.length:Int)=fw t.op\/(0<fw t.op/\¬t.n=0)):=h1;simp[cD];by_cases h2:fw t.op=0
   .have bV:=akm h2;simp[h2];refine⟨_,awh t (by omega) bV,?_⟩;simp
   have bV:¬(t.op=0\/t.op=1\/t.op=2):=by
    intro h;apply h2;unfold fw;rw[if_pos h]
   have bq:1<=ks.length:=by
    have:1<=fw t.op:=by
     unfold fw;rw[if_neg bV]
     repeat' split
     all_goals omega
    omega
   simp[h2];refine⟨_,awg t.op ks bq (λh3=>?_) (λh6=>?_),?_⟩
   .have:2<=fw t.op:=by
     unfold fw;rw[if_neg bV,if_neg h3];split<;>omega
    omega
   .have:fw t.op=3:=by rw[h6];rfl
    omega
   .cases h3:(Cr t.op ks).2<;>simp[h3]
def ahj (t:Tm)(ht:t.OK):aq T 156 [dm t] (.tup [.int (kH t).1,.int (kH t).2]):=by
 refine zyw 156 azr ?_;simp[XD,kH];refine⟨_,UE 8 t 60 ht (by omega) (by omega) (by omega),?_⟩;by_cases h:60<bu 8 t
 .have:=(aiA t).2 h;simp[h,this]
 have hn:¬gI 8 t 60<0:=λe=>h ((aiA t).1 e);simp[h,hn];refine⟨_,UF 8 t ht (by omega),?_⟩;simp
def UD (n:Int):aq T 182 [.int n] (.int (mA n)):=by
 refine zyw 167 azs ?_;unfold mA;by_cases h1:n< -1099511627776
 .simp[Oe];split<;>split<;>simp<;>omega
 .simp[Oe];split<;>split<;>simp<;>omega
def aho (b:Bool):aq T 183 [.bool b] (cv (fm b)):=by
 refine zyw 170 azE ?_;cases b<;>simp[XI]<;>rfl
def awe (v:Int)(cs:List Cell)(hv:0<=v):aq T 174 [.int v,cells cs] (cv (kX cs v)):=by
 obtain⟨k,rfl⟩:=vI hv;refine zyw 166 azw ?_;simp[XG,kX,cellAt];by_cases h1:cs.length<=k
 .have QK:(cs.length:Int)<=k:=by omega
  simp[h1,QK]
 have cD:k<cs.length:=by omega
 have QK:¬(cs.length:Int)<=k:=by omega
 simp[h1,cD,QK];cases h2:cs[k].known
 .simp[h2]
 simp[h2];refine⟨_,ahl _,?_⟩;rcases ajA k with h3|h3
 .simp[h3];refine⟨_,UD _,?_⟩;simp;rfl
 .simp[h3];by_cases h4:cs[k].n=0
  .simp[h4];rfl
  .simp[h4];rfl
def ahn (a b:Cell)(alone:Int)(h:alone=0\/alone=1):aq T 175 [cv a,cv b,.int alone] (cv (if(a.known=true/\a.n=alone)\/(b.known=true/\b.n=alone) then⟨true,alone⟩ else if a.known=true/\b.known=true then⟨true,1-alone⟩ else cX)):=by
 have hw:i64.wrap (1-alone)=1-alone:=bn (by omega);refine zyw 168 azC ?_;obtain⟨ka,na⟩:=a;obtain⟨kb,nb⟩:=b;by_cases e1:na=alone<;>by_cases e2:nb=alone<;>cases ka<;>cases kb<;>simp[XH,e1,e2,hw]<;>rfl
def awd (a b:Int)(ha:-1099511627776<=a/\a<=1099511627776)(hb:-1099511627776<=b/\b<=1099511627776):aq T 184 [.int a,.int b] (.int (rG a b)):=by
 refine zyw 171 azv ?_;by_cases h0:a=0\/b=0
 .have hz:rG a b=0:=by
   unfold rG nN;rcases h0 with rfl|rfl<;>simp
  rw[hz];simp[Of,h0]
 obtain⟨x,hx⟩:∃x,x=(if a< -a then-a else a):=⟨_,rfl⟩
 obtain⟨y,hy⟩:∃y,y=(if b< -b then-b else b):=⟨_,rfl⟩
 have l7:x=(a.natAbs:Int):=by rw[hx];split<;>omega
 have hyb:y=(b.natAbs:Int):=by rw[hy];split<;>omega
 have oM:1<=x/\x<=1099511627776:=by omega
 have hy1:1<=y/\y<=1099511627776:=by omega
 have wa:i64.wrap (0-a)=-a:=by rw[bn (by omega)];omega
 have wb:i64.wrap (0-b)=-b:=by rw[bn (by omega)];omega
 have wa':i64.wrap (-a)=-a:=bn (by omega);have wb':i64.wrap (-b)=-b:=bn (by omega);simp[Of,h0,wa,wb,wa',wb',<-hx,<-hy];refine⟨by omega,?_⟩;have hq:Int.tdiv 1099511627776 y=1099511627776/y:=ZI (by omega);have wE:0<=(1099511627776:Int)/y:=Int.ediv_nonneg (by omega) (by omega);have hq1:(1099511627776:Int)/y<=1099511627776:=Int.ediv_le_self _ (by omega);have F5:i64.wrap (Int.tdiv 1099511627776 y)=1099511627776/y:=by rw[hq];exact bn (by omega)
 have ao:(1099511627776:Int)/y<x↔1099511627776<x*y:=Int.ediv_lt_iff_lt_mul (by omega);obtain⟨m,hm⟩:∃m:Nat,m=a.natAbs*b.natAbs:=⟨_,rfl⟩
 have hmx:(m:Int)=x*y:=by rw[hm,l7,hyb];exact Int.natCast_mul _ _
 have hp:rG a b=if(a<0↔b<0) then nN m else-nN m:=by
  unfold rG;rw[<-hm];by_cases c1:a<0<;>by_cases c2:b<0<;>simp[c1,c2]
 have hpn:nN m=if 1099511627776<x*y then 1099511627776 else x*y:=by
  unfold nN;rw[<-hmx];split<;>split<;>omega
 rw[hp,hpn,F5];by_cases hc:1099511627776<x*y
 .have mE:=ao.2 hc;rw[if_pos hc,if_pos mE,if_pos mE];split<;>rfl
 .have mE:¬(1099511627776:Int)/y<x:=λe=>hc (ao.1 e);rw[if_neg hc,if_neg mE,if_neg mE];have LM:0<=x*y:=by rw[<-hmx];omega
  split
  .exact bn (by omega)
  .rw[bn (n:=-x) (by omega),Int.neg_mul];exact bn (by omega)
def awi (op a b:Int)(ha:9<=op->-1099511627776<=a/\a<=1099511627776)(hb:9<=op->-1099511627776<=b/\b<=1099511627776)(ho:7<=op):
 aq T 176 [.int op,.int a,.int b] (cv (if op=7 then fm (decide (a<b)) else if op=8 then fm (decide (a=b)) else⟨true,tU op a b⟩)):=by
 refine zyw 169 azD ?_;unfold tU;by_cases h7:op=7
 .simp[vC,h7];refine⟨_,aho _,?_⟩;simp
  try rfl
 by_cases h8:op=8
 .simp[vC,h8];refine⟨_,aho _,?_⟩;simp
  try rfl
 have a1:=ha (by omega);have b1:=hb (by omega);have w1:i64.wrap (a+b)=a+b:=bn (by omega);have w2:i64.wrap (a-b)=a-b:=bn (by omega);by_cases h9:op=9
 .simp[vC,h9,w1];refine⟨_,UD _,?_⟩;simp
  try rfl
 by_cases gL:op=10
 .simp[vC,gL,w2];refine⟨_,UD _,?_⟩;simp
  try rfl
 by_cases mD:op=11
 .simp[vC,mD];refine⟨_,awd a b a1 b1,?_⟩;simp
  try rfl
 by_cases BX:op=12
 .simp[vC,BX];have e:(if b<a then D.int b else D.int a)=D.int (min a b):=by
   split
   .rw[Int.min_eq_right (by omega)]
   .rw[Int.min_eq_left (by omega)]
  rw[e];rfl
 .simp[vC,h7,h8,h9,gL,mD,BX];have e:(if a<b then D.int b else D.int a)=D.int (max a b):=by
   split
   .rw[Int.max_eq_right (by omega)]
   .rw[Int.max_eq_left (by omega)]
  rw[e];rfl
def ahm:∀(L:Nat) (cs:List Cell) (t:Tm) (k:Int),t.OK->bu L t<=60->bD L t=(k,0)->aq T 158 [dm t,cells cs] (cv (bj L cs t))
 |0,cs,t,k,ht,hm,hc=>by simp[bu] at hm
 |L+1,cs,t,k,ht,hm,hc=>by
  refine zyw 165 azz ?_;obtain⟨hl,hp⟩:=Gl hm;obtain⟨ha,_⟩:=Ku hc;obtain⟨hn,apU⟩:=Eu hc;have fL:∀a,a∈t.args->aq T 158 [dm a,cells cs] (cv (bj L cs a)):=λa dz=>ahm L cs a (bD L a).1 (ht.arg dz) (hp a dz) (by rw[<-ha a dz]);have pZ:∀a,a∈t.args->sw (bD L a).1 (bj L cs a):=λa dz=>Qx cs (show bD L a=((bD L a).1,0) by rw[<-ha a dz]);by_cases dF:t.op=0\/t.op=1
  .have e1:bj (L+1) cs t=⟨true,t.n⟩:=by rw[yp,if_pos dF]
   rw[e1];rcases dF with h|h<;>simp[H8,h]<;>rfl
  have o0:t.op≠0:=λh=>dF (.inl h);have o1:t.op≠1:=λh=>dF (.inr h);by_cases o2:t.op=2
  .have hv:0<=t.n:=by
    cases hn with
    |var h0 ha hn=>exact hn.1
    |_=>omega
   have e1:bj (L+1) cs t=kX cs t.n:=by rw[yp,if_neg dF,if_pos o2]
   rw[e1];simp[H8,o2];refine⟨_,awe t.n cs hv,?_⟩;simp
   try rfl
  have e1:bj (L+1) cs t=if t.op=6/\(bp (t.args.map (bj L cs)) 0).known=true then bp (t.args.map (bj L cs)) (2-(bp (t.args.map (bj L cs)) 0).n).toNat else eP t.op (t.args.map (bj L cs)):=by
   rw[yp,if_neg dF,if_neg o2]
  rw[e1];simp[H8,o0,o1,o2];refine aN.forRounds t.args.length (λk=>[.none,.int k]) (λk=>[cells ((t.args.map (bj L cs)).take k)]) ?_ (λk hk=>?_) ?_
  .simp[cells]
  .have hw:=aV hk (by omega);have cO:=cG hk;have hr:=fL _ cO;have yM:(t.args.map (bj L cs))[k]'(by simpa using hk)=bj L cs t.args[k]:=by simp
   have y7:(t.args.map (bj L cs)).take (k+1)=(t.args.map (bj L cs)).take k++[bj L cs t.args[k]]:=by
    rw[lR (by simpa using hk),yM]
   have hlen:((t.args.map (bj L cs)).take k).length=k:=by simp;omega
   rw[y7];generalize (t.args.map (bj L cs)).take k=A at*;generalize bj L cs t.args[k]=c at*;simp[vu,rR,hk];refine⟨_,hr,?_⟩;simp[hlen,hk,hw,cells];omega
  .have lA:(t.args.map (bj L cs)).length=t.args.length:=by simp
   have e0:(t.args.map (bj L cs)).take t.args.length=t.args.map (bj L cs):=by rw[<-lA,DY]
   rw[e0];have val:∀(k:Int) (c:Cell),sw k c->c=cX\/c.known=true/\(k=1->c.n=0\/c.n=1)/\(k=0->-1099511627776<=c.n/\c.n<=1099511627776):=by
    intro k c hr;cases e:c.known with
    |false=>exact .inl (hr.1 e)
    |true=>exact .inr ⟨rfl,hr.2 e⟩
   by_cases h7:7<=t.op
   .obtain⟨k',hk,h13,h9⟩:∃k',t.args.map (λa=>(bD L a).1)=[k',k']/\t.op<=13/\(9<=t.op->k'=0):=by
     cases hn with
     |less o hk=>exact⟨0,hk,by omega,λ_=>rfl⟩
     |equal k o hk=>exact⟨k,hk,by omega,λ_=>by omega⟩
     |num o hk=>exact⟨0,hk,by omega,λ_=>rfl⟩
     |log h0 hk=>omega
     |_=>omega
    obtain⟨a,b,gQ,ea,eb⟩:=wV hk;have rk:t.args.length=2:=by rw[gQ];rfl
    have ra:=pZ a (by simp[gQ]);rw[ea] at ra;have rb:=pZ b (by simp[gQ]);rw[eb] at rb;rw[gQ];simp only[gn,vL,lQ,sq];generalize bj L cs a=A at*;generalize bj L cs b=B at*;have o3:¬t.op=3:=by omega
    have o4:¬t.op=4:=by omega
    have o5:¬t.op=5:=by omega
    have o6:¬t.op=6:=by omega
    have ec:eP t.op [A,B]=if A.known=false\/B.known=false then cX else if t.op=7 then fm (decide (A.n<B.n)) else if t.op=8 then fm (decide (A.n=B.n)) else⟨true,tU t.op A.n B.n⟩:=by
     unfold eP;rw[if_neg o3,if_neg (by omega),if_neg o6];have:¬(t.op=4\/t.op=5):=by omega
     rw[if_neg this];rfl
    rw[if_neg (by omega),ec];cases e1:A.known<;>cases e2:B.known<;>simp[vu,rR,rk,o3,o4,o5,o6,cells,e1,e2]
    .have b1:9<=t.op->-1099511627776<=A.n/\A.n<=1099511627776:=λh=>(ra.2 e1).2 (h9 h);have b2:9<=t.op->-1099511627776<=B.n/\B.n<=1099511627776:=λh=>(rb.2 e2).2 (h9 h);refine⟨_,awi t.op A.n B.n b1 b2 h7,?_⟩;simp
     try rfl
   cases hn with
   |int h0 ha hn=>omega
   |bool h0 ha hn=>omega
   |var h0 ha hn=>omega
   |not o3 hk=>
    obtain⟨a,gQ,e⟩:=adV hk;have rk:t.args.length=1:=by rw[gQ];rfl
    have ra:=pZ a (by simp[gQ]);rw[e] at ra;rw[gQ];simp only[gn,vL,lQ,sq];generalize bj L cs a=A at*;rcases val _ _ ra with rfl|⟨h1,h2,_⟩
    .simp[vu,rR,rk,o3,eP,cells,bp,cX]
    .obtain⟨ka,na⟩:=A;simp at h1;subst h1;rcases h2 rfl with h|h<;>simp at h<;>subst h<;>simp[vu,rR,rk,o3,eP,cells,bp]<;>rfl
   |log Cy hk=>
    obtain⟨a,b,gQ,ea,eb⟩:=wV hk;have rk:t.args.length=2:=by rw[gQ];rfl
    have ra:=pZ a (by simp[gQ]);rw[ea] at ra;have rb:=pZ b (by simp[gQ]);rw[eb] at rb;rw[gQ];simp only[gn,vL,lQ,sq];generalize bj L cs a=A at*;generalize bj L cs b=B at*;have key:∀al:Int,(al=0\/al=1)->t.op=4+al->(if(A.known=true/\A.n=al)\/(B.known=true/\B.n=al) then(⟨true,al⟩:Cell) else if A.known=true/\B.known=true then⟨true,1-al⟩ else cX)=eP t.op [A,B]:=by
     intro al q7 bV;rw[bV];have v3:∀c:Cell,sw 1 c->c=cX\/c=⟨true,0⟩\/c=⟨true,1⟩:=by
        intro c hr;rcases val _ _ hr with h|⟨h,h2,_⟩
        .exact .inl h
        .rcases h2 rfl with h3|h3
         .exact .inr (.inl ((IF _ _).2 ⟨h,h3⟩))
         .exact .inr (.inr ((IF _ _).2 ⟨h,h3⟩))
     rcases v3 _ ra with rfl|rfl|rfl<;>rcases v3 _ rb with rfl|rfl|rfl<;>rcases q7 with rfl|rfl<;>rfl
    rcases Cy with o|o
    .rw[if_neg (by omega),<-key 0 (.inl rfl) o];simp[vu,rR,rk,o,cells];refine⟨_,ahn A B 0 (.inl rfl),?_⟩;simp
     try rfl
    .rw[if_neg (by omega),<-key 1 (.inr rfl) o];simp[vu,rR,rk,o,cells];refine⟨_,ahn A B 1 (.inr rfl),?_⟩;simp
     try rfl
   |ite k o6 hk=>
    obtain⟨a,b,c,gQ,ea,eb,ec⟩:=L8 hk;have rk:t.args.length=3:=by rw[gQ];rfl
    have ra:=pZ a (by simp[gQ]);rw[ea] at ra;have w2:i64.wrap 2=2:=bn (by omega);rw[gQ];simp only[gn,vL,lQ,sq];generalize bj L cs a=A at*;generalize bj L cs b=B at*;generalize bj L cs c=C at*;rcases val _ _ ra with rfl|⟨h1,h2,_⟩
    .by_cases g:B.known=true/\B=C
     .have gg:=g.2;have gk:=g.1;subst gg;simp[vu,rR,rk,o6,eP,cells,bp,cX,gk];obtain⟨kb,nb⟩:=B;simp at gk;subst gk;rfl
     .have g':¬(B.known=true/\C.known=true/\B.n=C.n):=λh=>g ⟨h.1,(IF B C).2 ⟨by rw[h.1,h.2.1],h.2.2⟩⟩;rw[if_neg (by simp[bp,cX])];unfold eP;rw[if_neg (by omega),if_neg (by omega),if_pos o6];simp only[bp,aL];simp;rw[if_neg g];cases e1:B.known<;>cases e2:C.known<;>simp[vu,rR,rk,o6,cells,cX,e1,e2];have:¬B.n=C.n:=λh=>g' ⟨e1,e2,h⟩;simp[this]
    .obtain⟨ka,na⟩:=A;simp at h1;subst h1;rcases h2 rfl with h|h<;>simp at h<;>subst h<;>simp[vu,rR,rk,w2,o6,eP,cells,bp]<;>rfl
   |less o hk=>omega
   |equal k o hk=>omega
   |num o hk=>omega
def awc (t:Tm)(cs:List Cell)(ht:t.OK):aq T 138 [dm t,cells cs] (cv (uo cs t)):=by
 refine zyw 164 azt ?_;simp[XE,uo];refine⟨_,ahj t ht,?_⟩;by_cases h:(kH t).2=0
 .obtain⟨h1,h2⟩:=aax h;simp[h];refine⟨_,ahm 8 cs t _ ht h1 h2,?_⟩;simp
  try rfl
 .simp[h]
  try rfl
def UG (ask:Int):aq T 119 [.int ask] (.bool (decide (0<=ask/\ask<22))):=by
 refine zyw 148 azI ?_;by_cases h:0<=ask<;>by_cases h2:ask<22<;>simp[XM,h,h2]
def ag7 (ask:Int)(h:0<=ask/\ask<22):aq T 140 [.int ask] (.bool (!hasB rB ask)):=by
 refine zyw 163 ayM ?_;have hb:hasB rB ask=true↔ask=6\/ask=7\/ask=10\/ask=12\/ask=13\/ask=14\/ask=15\/ask=16\/ask=20\/ask=21:=by
  simp[hasB,rB];omega
 by_cases hm:ask=6\/ask=7\/ask=10\/ask=12\/ask=13\/ask=14\/ask=15\/ask=16\/ask=20\/ask=21
 .rw[hb.2 hm];rcases hm with h|h|h|h|h|h|h|h|h|h<;>subst h<;>simp[N8]
 .have hf:hasB rB ask=false:=by
   cases e:hasB rB ask
   .rfl
   .exact absurd (hb.1 e) hm
  rw[hf];simp only[not_or] at hm;obtain⟨a1,a2,a3,a4,a5,a6,a7,a8,a9,nv⟩:=hm;simp[N8,a1,a2,a3,a4,a5,a6,a7,a8,a9,nv];have hw:=bJ ask 0 21;have Sf:wi ask 0 21=true:=by simp[wi];omega
  rw[Sf] at hw;exact hw
def awk (ask:Int):aq T 157 [.int ask] (.tup [.int (eE ask).1,.bool (eE ask).2]):=by
 refine zyw 162 azK ?_;simp[XO,eE];refine⟨_,UG ask,?_⟩;by_cases h:0<=ask/\ask<22
 .have h1:¬(ask<0\/22<=ask):=by omega
  simp[h,h1];refine⟨_,ag7 ask h,?_⟩;cases e:hasB rB ask<;>simp[e]
 .have h1:ask<0\/22<=ask:=by omega
  simp[h,h1]
def ahq (o:Order)(ask:Int)(hl:o.rules.length<=4294967296):aq T 139 [iO o,.int ask] (.int (l9 o.rules.length (ng o ask))):=by
 refine zyw 155 azJ ?_;simp[XN];refine .scan o.rules.length (λk=>ng o ask k=false) (λk=>[.int 0,.int k]) (λ_=>[]) ?_ (λk hk hj ho=>?_) (λk hk hj ho=>?_) (λhj=>?_)
 .simp
 .have hw:=aV hk hl;simp[ng,hk] at ho;simp[Vn,Hm,hk,hw,ho]
 .have he:=Gd hk (by simpa using ho) hj;simp[ng,hk] at ho;simp[Vn,Hm,hk,he,ho]
 .have he:=Gc hj;simp[Vn,Hm,he]
def awl (o:Order)(ask:Int)(ho:o.OK)(hl:o.rules.length<=4294967296):aq T 137 [iO o,.int ask] (.int (findF o ask).2):=by
 refine zyw 154 azL ?_;simp[XP,findF];refine⟨_,UG ask,?_⟩;have ht:(eE ask).2=decide (0<=ask/\ask<22):=by
  unfold eE;by_cases h:ask<0\/22<=ask
  .rw[if_pos h];have:¬(0<=ask/\ask<22):=by omega
   simp[this]
  .rw[if_neg h];have:0<=ask/\ask<22:=by omega
   split<;>simp[this]
 by_cases h:0<=ask/\ask<22
 .simp[h,ht];refine⟨_,ahq o ask hl,?_⟩;rcases zi o.rules.length (ng o ask) with⟨h1,h2⟩|⟨m,hm,h1,h2,h3⟩
  .rw[h1];simp
  .rw[h1];have yY:¬((m:Int)<0):=by omega
   have F1:o.rules[m].term.OK:=NM ho hm;simp[hm,xq,yY];refine⟨_,ahj _ F1,_,awk ask,?_⟩;by_cases h4:(kH o.rules[m].term).2=0<;>by_cases h5:(kH o.rules[m].term).1=(eE ask).1<;>simp[h4,h5]
 .simp[h,ht]
def awj (o:Order)(ask:Int)(cs:List Cell)(ho:o.OK)(hl:o.rules.length<=4294967296):aq T 121 [iO o,.int ask,cells cs] (.tup [cv (lS o ask cs).1,.int (lS o ask cs).2]):=by
 refine zyw 153 azG ?_;simp[XK];refine⟨_,awl o ask ho hl,?_⟩;by_cases h:(findF o ask).2=0
 .have hq:(eE ask).2=true:=by
   unfold findF at h;cases e:(eE ask).2
   .rw[if_pos e] at h;cases h
   .rfl
  have hr:0<=ask/\ask<22:=by
   unfold eE at hq;split at hq
   .cases hq
   .omega
  have hix:∃m:Nat,m<o.rules.length/\l9 o.rules.length (ng o ask)=m/\(findF o ask).1=xq o m:=by
   unfold findF at h ⊢;rw[if_neg (by rw[hq];decide)] at h ⊢;split at h
   .cases h
   rename_i h1;rw[if_neg h1];split at h
   .cases h
   rename_i h2;rw[if_neg h2];rcases zi o.rules.length (ng o ask) with⟨g1,g2⟩|⟨m,hm,g1,g2,g3⟩
   .exact absurd (by rw[g1];decide) h1
   .exact⟨m,hm,g1,by rw[g1]⟩
  obtain⟨m,hm,g1,g2⟩:=hix;have F1:o.rules[m].term.OK:=NM ho hm;have kc:(findF o ask).1=o.rules[m].term:=by rw[g2];simp[xq,hm]
  simp[h,lS,kc];refine⟨_,ahq o ask hl,?_⟩;rw[g1];simp[hm];refine⟨_,awc _ cs F1,?_⟩;generalize uo cs o.rules[m].term=c;have mG:=ag7 ask hr;have br:(eE ask).1=0↔hasB rB ask=true:=by
   unfold eE;rw[if_neg (by omega)];split
   .rename_i e;simp[e]
   .rename_i e;simp[e]
  obtain⟨kn,n⟩:=c;cases hb:hasB rB ask
  .have eR:¬(eE ask).1=0:=λe=>by rw[br.1 e] at hb;cases hb
   rw[hb] at mG;cases kn<;>simp[eR]
   all_goals first|rfl|(refine⟨_,mG,?_⟩;rfl)|(refine⟨_,mG,?_⟩;simp;done)|(refine⟨_,mG,?_⟩;simp;rfl)
  .have eR:=br.2 hb;rw[hb] at mG;cases kn
   .simp[eR]
    first|rfl|(refine⟨_,mG,?_⟩;rfl)|(refine⟨_,mG,?_⟩;simp;done)|(refine⟨_,mG,?_⟩;simp;rfl)
   .by_cases h2:n<0
    .have:min (max n 0) 20000=0:=by omega
     simp[eR,h2,this]
     first|rfl|(refine⟨_,mG,?_⟩;rfl)|(refine⟨_,mG,?_⟩;simp;done)|(refine⟨_,mG,?_⟩;simp;rfl)
    .by_cases h3:20000<n
     .have:min (max n 0) 20000=20000:=by omega
      simp[eR,h2,h3,this]
      first|rfl|(refine⟨_,mG,?_⟩;rfl)|(refine⟨_,mG,?_⟩;simp;done)|(refine⟨_,mG,?_⟩;simp;rfl)
     .have:min (max n 0) 20000=n:=by omega
      simp[eR,h2,h3,this];exact⟨⟨_,mG⟩,rfl⟩
 .simp[h,lS]
  try rfl
def arM {r:Realm}{a q:Int}{l:List Int}(h:(dc r a q l).1≠[]):j9 r a q l=true/\l.getD 0 0=a:=by
 unfold dc at h;split at h
 .assumption
 .exact absurd rfl h
def awp (r:Realm)(hr:Right r)(hc:eO r=0)(sQ:r.cities.length<=100000)(ak q:Int)(c:Case)(hf:FewS c.file):aq T 91 [aX r,.int ak,.int q,eZ c] (nB (lT r ak q c)):=by
 have hP:=awt r hc sQ ak c hf;have hQ:=UG q;refine zyw 138 azQ ?_;simp[XU];refine⟨_,hP,?_⟩;by_cases hp:eB r ak c=[]
 .rw[ade (.inl hp),hp];simp
  try rfl
 have dB:¬((eB r ak c).length:Int)=0:=by
  have:=Am.mpr hp;omega
 by_cases hq:q<0\/22<=q
 .rw[ade (.inr hq)];have:¬(0<=q/\q<22):=by omega
  simp[hp,dB];refine⟨_,hQ,?_⟩;simp[this]
  try rfl
 have hj:=arB hr hc hp hq;have hqq:0<=q/\q<22:=by omega
 obtain⟨Lj,Rg⟩:=arM hj.path;have hL:=awn r hr.by_ (aut hc) hr.len ak q (eB r ak c) Lj hqq Rg;have hC:=ahs r sQ c hf;have hlen:=adk r ak q (eB r ak c);have Rm:=LY hr (a:=ak) (q:=q) (l:=eB r ak c) (by have:=(BO Lj).2.1;omega);have LJ:=hr.len;rw[hj.ask];have acx:=hj.path;simp[hp,dB];refine⟨_,hQ,?_⟩;simp[hqq];refine⟨_,hL,?_⟩;generalize dc r ak q (eB r ak c)=L at*;obtain⟨path,err⟩:=L;simp only at*;have LM:=Am.mpr acx;have wA:¬(path.length:Int)=0:=by omega
 by_cases he:err=0
 .obtain⟨h1,h2⟩:=Rm he;have zd:i64.wrap ((path.length:Int)-1)=(path.length:Int)-1:=bn (by omega);have yU:((path.length:Int)-1).toNat=path.length-1:=by omega
  have ao:path.length-1<path.length:=by omega
  have gR:cE path=path[path.length-1]:=by simp[cE,ao]
  have h3:(cE path).toNat<r.orders.length:=by omega
  have h4:jR r (cE path)=r.orders[(cE path).toNat]:=by simp[jR,h3]
  obtain⟨aC,hrl⟩:=hr.ok _ (cG h3);simp[he,acx,zd,yU,ao,<-gR,h2,h3,h4];refine⟨by omega,_,hC,_,awj _ q _ aC (by omega),?_⟩;simp
  try rfl
 .simp[he]
  try rfl
def awq (r:Realm)(hr:Right r)(hc:eO r=0)(sQ:r.cities.length<=100000)(ak q:Int)(f:File)(day:Int)(hf:FewS f):aq T 68 [aX r,.int ak,.int q,aS f,.int day] (nB (As r ak q f day)):=by
 refine zyw 137 azR ?_;simp[XV];refine⟨nB (As r ak q f day),awp r hr hc sQ ak q ⟨{f with facts:=[]},0,-1,-1,-1,day⟩ ⟨hf.1,hf.2,hf.3,by simp⟩,?_⟩;simp
 try rfl
set_option maxRecDepth 10000 in
def ahg (f:File)(part day:Int)(h1:f.acts.length<=1000)(h2:f.signs.length<=1000):aq T 20 [aS f,.int part,.int day] (uf (kG f part day)):=by
 refine zyw 173 aze ?_;simp[Xt];refine⟨_,ahh f part day (by omega) (by omega),?_⟩;have hlen:=KC f part day;have hE:(fT f part day).length=(gp f part day).length:=by unfold fT;rw[fp]
 refine aN.forLoop (α:=Nat×Chain) (λs vr vo=>s.1<=(gp f part day).length/\s.2.signs.length<=s.1/\s.2.late.length<=s.1/\s.2.bearer=(s.2.holder==-1)/\
  ((s.2.broken=-1/\kG f part day=j6 (iN day f.acts) s.2 ((fT f part day).drop s.1))\/(s.2.broken≠-1/\kG f part day=s.2))/\vr=[.int s.1]/\
  ∃b0 b5,vo=[.agg [b0,.int s.2.holder,.int s.2.broken,.bool false,.int s.2.agent,b5],ints s.2.late,ints s.2.signs]) (λs=>(gp f part day).length-s.1) (0,kF f) ?_ ?_
 .refine⟨om _,by simp[kF],by simp[kF],by simp[kF],.inl ⟨rfl,rfl⟩,by simp,.list [],.list [],?_⟩;simp[bH,kF,ints]
 .rintro⟨k,c⟩ vr vo ⟨hk,hs,hl,hb,hR,rfl,b0,b5,rfl⟩;simp only at hk hs hl hb hR;by_cases hc:c.broken=-1
  case neg=>
   have hR2:=hR.resolve_left (λh=>hc h.1);simp[Ve,Hd,hc,bH];rw[hR2.2];simp[uf,hb];rfl
  have sL:=(hR.resolve_right (λh=>h.1 hc)).2;by_cases ao:k<(gp f part day).length
  case neg=>
   obtain rfl:k=(gp f part day).length:=by omega
   rw[<-hE,List.drop_length] at sL;simp only[j6] at sL;simp[Ve,Hd,uT,bH];rw[sL];simp[uf,hb];rfl
  have hw:=aV ao (by omega);obtain⟨i,hi⟩:∃i,i=(gp f part day)[k]:=⟨_,rfl⟩
  have hif:i<f.signs.length:=by
   have:=cG ao;rw[<-hi] at this;unfold gp at this;exact cu.1 (eg.1 this).1
  have hEk:(fT f part day).drop k=((i:Int),f.signs[i])::(fT f part day).drop (k+1):=by
   rw[Ip (by omega)]
   congr 1
   simp[fT,<-hi,hif]
  rw[hEk] at sL;simp only[j6] at sL;have uG:=av7 f f.signs[i].day day (by omega);rw[<-arK] at uG;have aqK:=av8 c.agent f.signs[i].flags;simp[Ve,Hd,ao,hw,hc,uT,<-hi,hif,bH];by_cases uy:brk c f.signs[i]=true
  .rw[if_pos uy] at sL;have QX:¬c.holder=-1/\¬f.signs[i].who=c.holder:=by simpa [brk,hb] using uy
   rw[if_pos QX];exact⟨k+1,by omega,by omega,{c with broken:=(i:Int)},(by show c.signs.length<=k+1;omega),(by show c.late.length<=k+1;omega),(by simpa using hb),.inr ⟨(by show ¬(i:Int)=-1;omega),sL⟩,by simp,⟨rfl,rfl,rfl⟩,rfl,rfl⟩
  .rw[if_neg uy] at sL;have QX:¬(¬c.holder=-1/\¬f.signs[i].who=c.holder):=λh=>uy (by simp[brk,hb,h]);rw[if_neg QX];refine⟨by omega,_,aqK,_,uG,?_⟩;have cW:(dE (iN day f.acts) c i f.signs[i]).bearer=decide ((dE (iN day f.acts) c i f.signs[i]).holder=-1):=by simp[dE]
   cases hL:((iN day f.acts).2&&decide ((iN day f.acts).1<f.signs[i].day))
   .have FC:(dE (iN day f.acts) c i f.signs[i]).late=c.late:=by simp only[dE,hL];rfl
    rw[if_neg (by simp)];exact⟨k+1,by omega,by omega,dE (iN day f.acts) c i f.signs[i],by simp[dE];omega,by rw[FC];omega,cW,.inl ⟨hc,sL⟩,by simp,⟨rfl,by simp[dE,hc],b5,by simp[dE]⟩,by rw[FC],by simp[dE,ints]⟩
   .have FC:(dE (iN day f.acts) c i f.signs[i]).late=c.late++[(i:Int)]:=by simp only[dE,hL];rfl
    rw[if_pos (by simp)];exact⟨by omega,k+1,by omega,by omega,dE (iN day f.acts) c i f.signs[i],by simp[dE];omega,by rw[FC];simp;omega,cW,.inl ⟨hc,sL⟩,by simp,⟨rfl,by simp[dE,hc],.none,by simp[dE]⟩,by rw[FC];simp[ints],by simp[dE,ints]⟩
def Gv (s:Int×Bool)(c:Objection):Int×Bool:=(max s.1 c.day,s.2&&decide (s.1<=c.day))
def au5 (l:List Objection):∀s:Int×Bool,((l.foldl Gv s).2&&decide ((l.foldl Gv s).1<=100000))=(s.2&&lj l s.1):=by
 induction l with
 |nil=>intro s;rfl
 |cons c l ih=>
  intro s;rw[Ak,ih];show(s.2&&decide (s.1<=c.day)&&lj l (max s.1 c.day))=(s.2&&(!decide (c.day<s.1)&&lj l c.day))
  by_cases h:s.1<=c.day
  .rw[show max s.1 c.day=c.day by omega,decide_eq_true h,decide_eq_false (show ¬c.day<s.1 by omega)];cases s.2<;>rfl
  .rw[decide_eq_false h,decide_eq_true (show c.day<s.1 by omega)];cases s.2<;>rfl
def qg (f:File)(x:Lost)(k:Nat):Int×Bool:=(x.claims.take k).foldl Gv (x.notice,decide (f.bill.day<=x.day)&&decide (x.day<=x.notice))
def au4 (f:File)(x:Lost){k:Nat}(hk:k<x.claims.length):qg f x (k+1)=Gv (qg f x k) x.claims[k]:=by
 unfold qg;rw[lR hk,Iq];rfl
def au3 (f:File)(x:Lost):((qg f x x.claims.length).2&&decide ((qg f x x.claims.length).1<=100000))=ou f x:=by
 unfold qg;rw[DY,au5];unfold ou
 congr 1
 by_cases h1:f.bill.day<=x.day<;>by_cases h2:x.day<=x.notice<;>simp[h1,h2]<;>omega
set_option maxRecDepth 10000 in
def aht (r:Realm)(hr:Small r)(f:File)(iQ:f.OK)(x:Lost)(hl:x.claims.length<=1000):aq T 9 [aX r,aS f,eQ x] (.int (kR r f x (iv r f))):=by
 refine zyw 121 azY ?_;generalize hX:kR r f x (iv r f)=X;unfold kR at hX;simp[X0];refine⟨_,avZ r hr f iQ,?_⟩;by_cases h0:iv r f=0
 case neg=>rw[if_pos h0] at hX;subst hX;simp[h0]
 rw[if_neg (by simpa using h0)] at hX;simp[h0];by_cases h1:aw x.part f.bill.parts=true
 case neg=>
  rw[if_pos (by simpa using h1)] at hX;subst hX;simp[aw] at h1;rw[if_pos (by omega)]
 rw[if_neg (by simp[h1])] at hX;rw[if_neg (by simp[aw] at h1;omega)];by_cases h2:aw x.by_ r.firms.length=true
 case neg=>
  rw[if_pos (by simpa using h2)] at hX;subst hX;simp[aw] at h2;rw[if_pos (by omega)]
 rw[if_neg (by simp[h2])] at hX;rw[if_neg (by simp[aw] at h2;omega)];by_cases h3:20<x.claims.length
 case pos=>
  rw[if_pos h3] at hX;subst hX;rw[if_pos (by omega)]
 rw[if_neg h3] at hX;rw[if_neg (by omega)];refine aN.scan x.claims.length (λk=>aw (x.claims.getD k default).firm r.firms.length=true) (λk=>[.int 0,.int (qg f x k).1,.bool (qg f x k).2,.int k]) (λ_=>[]) ?_ (λk hk hj ho=>?_) (λk hk hj ho=>?_) (λhj=>?_)
 .by_cases h:f.bill.day<=x.day<;>simp[qg,h]
 .have hw:=aV hk (by omega);simp[hk,aw] at ho;have hn:¬(x.claims[k].firm<0\/(r.firms.length:Int)<=x.claims[k].firm):=by omega
  have hs:=au4 f x hk;simp[Vs,Hq,hk,hw,bH,hn,hs,Gv];refine⟨Mf _ _,?_⟩;cases(qg f x k).2<;>rfl
 .have cA:H5 r x=true:=jA.2 ⟨k,cu.2 hk,by simpa using ho⟩;rw[if_pos cA] at hX;subst hX;simp[hk,aw] at ho;have hn:x.claims[k].firm<0\/(r.firms.length:Int)<=x.claims[k].firm:=by omega
  simp[Vs,Hq,hk,bH,hn]
 .have cA:¬H5 r x=true:=λh=>by
   obtain⟨k,hk,e⟩:=jA.1 h;have:=hj k (cu.1 hk);rw[this] at e;cases e
  rw[if_neg cA,<-au3] at hX;simp[Vs,Hq];cases hA:(qg f x x.claims.length).2
  .rw[hA] at hX;rw[if_pos (.inl rfl)];exact hX
  .rw[hA,sf] at hX;by_cases h4:100000<(qg f x x.claims.length).1
   .rw[if_pos (by simp;omega)] at hX;rw[if_pos (.inr h4)];exact hX
   .rw[if_neg (by simp;omega)] at hX;rw[if_neg (by simp[h4])];exact hX
def awv (r:Realm)(hr:Right r)(hc:eO r=0)(sQ:r.cities.length<=100000)(ak:Int)(f:File)(hf:FewS f)(x:Lost):aq T 37 [aX r,.int ak,aS f,eQ x] (.tup [.int (i64.wrap (x.notice+iI r ak f x)),.bool (!decide (iI r ak f x=-1))]):=by
 refine zyw 136 azZ ?_;simp[X1];refine⟨_,awq r hr hc sQ ak 20 f x.day hf,_,aws _,?_⟩;unfold iI;simp
def avi {r:Realm}{f:File}(h:iv r f=0):eO r=0:=by
 refine sk λhc=>?_;have hb:mz r f.bill=eO r:=by unfold mz;rw[if_pos hc]
 unfold iv at h;split at h
 .cases h
 rw[hb,if_pos hc] at h;exact hc h
set_option maxRecDepth 10000 in
def ahu (r:Realm)(hr:Right r)(hs:Small r)(sQ:r.cities.length<=100000)(ak:Int)(f:File)(hf:FewS f)(iQ:f.OK)(x:Lost)(hx:x.OK)(hl:x.claims.length<=1000)(day:Int):
 aq T 11 [aX r,.int ak,aS f,eQ x,.int day] (.int (jx r ak f x (iv r f) day)):=by
 refine zyw 120 az0 ?_;generalize hX:jx r ak f x (iv r f) day=X;unfold jx NX at hX;simp[X2];refine⟨_,aht r hs f iQ x hl,?_⟩;by_cases h0:kR r f x (iv r f)=0
 case neg=>rw[if_pos (by simp[h0])] at hX;subst hX;simp[h0]
 have wA:iv r f=0:=by
  refine sk λhc=>?_;unfold kR at h0;rw[if_pos hc] at h0;exact hc h0
 simp[h0];refine⟨_,awv r hr (avi wA) sQ ak f hf x,_,ahg f x.part x.day hf.acts hf.signs,?_⟩;by_cases h1:x.day<=day
 case neg=>rw[if_pos (.inr (by omega))] at hX;subst hX;simp[show day<x.day by omega,bH]
 rw[if_neg (by simp[h0];omega)] at hX;simp[show ¬day<x.day by omega,bH];by_cases h2:(iI r ak f x=-1\/¬(kG f x.part x.day).holder=x.by_)\/¬(kG f x.part x.day).broken=-1
 .rw[if_pos h2];have ic:iI r ak f x=-1\/nE f x=false:=by
   rcases h2 with(h2|h2)|h2
   .exact .inl h2
   .exact .inr (by simp[nE,h2])
   .exact .inr (by simp[nE,h2])
  rw[if_pos ic] at hX;exact hX
 rw[if_neg h2];simp only[not_or,Ik] at h2;have hh:nE f x=true:=by simp[nE,h2]
 have ic:¬(iI r ak f x=-1\/nE f x=false):=by simp only[not_or,hh];exact⟨h2.1.1,by decide⟩
 rw[if_neg ic] at hX;have hd:ou f x=true:=by
  unfold kR at h0;cases hd:ou f x
  .rw[hd] at h0
   repeat' split at h0
   all_goals first|(cases h0;done)|omega|(rename_i hq;exact absurd rfl hq)
  .rfl
 have hn:x.notice<=100000:=by
  simp only[ou,av] at hd;have h2:=hd.2;have key:∀(l:List Objection) (a:Int),lj l a=true->a<=100000:=by
   intro l
   induction l with
   |nil=>intro a h;simpa [lj] using h
   |cons c l ih=>intro a h;simp[lj] at h;have:=ih _ h.2;omega
  exact key _ _ h2
 have ht:0<=iI r ak f x/\iI r ak f x<=20000:=by
  rcases aem r ak 20 ⟨{f with facts:=[]},0,-1,-1,-1,x.day⟩ rfl with h|h
  .exact absurd (.inl h) ic
  .exact h
 have hI:aQ x.notice:=hx.2.2.2.2.1;have hw:i64.wrap (x.notice+iI r ak f x)=x.notice+iI r ak f x:=bn (by unfold aQ at hI;omega);generalize hL:x.notice+iI r ak f x=L at*;refine .scan x.claims.length (λk=>po L day (x.claims.getD k default)=false) (λk=>[.int 0,.int k]) (λ_=>[]) ?_ (λk hk hj ho=>?_) (λk hk hj ho=>?_) (λhj=>?_)
 .simp
 .have dP:=aV hk (by omega);simp[hk,po] at ho;simp[Vt,Hr,hk,dP,hw];intro a b;have:=ho a;split at b<;>omega
 .simp[hk,po] at ho;have yC:x.claims.any (po L day)=true:=jA.2 ⟨x.claims[k],cG hk,by simp[po,ho]⟩;rw[if_pos yC] at hX;subst hX;simp[Vt,Hr,hk,hw,ho];split<;>omega
 .have yC:¬x.claims.any (po L day)=true:=λh=>by
   obtain⟨o,ho,hs⟩:=jA.1 h;obtain⟨k,hk,rfl⟩:=jV ho;have:=hj k hk;simp only[aL,bL hk,jc] at this;rw[hs] at this;cases this
  rw[if_neg yC] at hX;simp[Vt,Hr,hw];by_cases hc:L<day
  .rw[if_pos hc] at hX;rw[if_neg (by omega)];exact hX
  .rw[if_neg hc] at hX;rw[if_pos (by omega)];exact hX
def aq.of_cf {f:Nat}{pc:PC}{cf:Option PC}{ds:List D}{d:D}(n:Nat)(hx:ext f=none)(ht:tab f=some pc)(hcf:cf=some pc)(h:(cf.bind λc=>c.ev (λ_ _=>none) n (lV ds))=some (.ret d)):aq T f ds d:=by
 subst hcf;refine⟨n+1,λm hm=>?_⟩;obtain⟨k,rfl⟩:∃k,m=k+1:=⟨m-1,by omega⟩
 have:=PC.ev_mono (Z:=λ_ _=>none) (Ψ:=T k) (λf ds d h=>by cases h) (show n<=k by omega) h;show eH tab ext (k+1) f ds=some d;simp only[eH,hx,ht];rw[this]
def dY:Realm:=⟨[⟨#[102,114,97,110,99]⟩],[⟨⟨#[76,121,111,110]⟩,0,0,[],[],[]⟩],[⟨0⟩],[⟨⟨#[66,111,100,109,101,114]⟩,0,0⟩,⟨⟨#[72,111,112,101]⟩,0,0⟩,⟨⟨#[82,105,99,99,105]⟩,0,0⟩],[⟨⟨#[103,101,110,101,118,97]⟩,false,[],[⟨20,⟨0,30,[]⟩⟩]⟩],[],[],[]⟩
def loB:Bill:=⟨0,1,2,500,0,⟨0,0,0⟩,2,0,0,-1,0,0,1⟩
def eL:File:=⟨loB,[⟨0,0,0,-1,-1,0,2,0,0⟩,⟨2,0,2,-1,1,0,20,0,0⟩],[],[],[]⟩
def gB (l:List Objection):Lost:=⟨0,0,2,10,12,l⟩
def arS:aq T 13 [] (.tup [aX dY,aS eL,eQ (gB [])]):=aq.of_cf 20 rfl akw (ax Er aeF) (by kernel_rfl)
def arV:Small dY:=by
 refine⟨by decide,by decide,by decide,by decide,by decide,by decide,by decide,by decide,?_,?_,?_⟩
 .intro c hc;obtain rfl:c=⟨⟨#[76,121,111,110]⟩,0,0,[],[],[]⟩:=by simpa [dY] using hc
  simp
 .intro o ho;obtain rfl:o=⟨⟨#[103,101,110,101,118,97]⟩,false,[],[⟨20,⟨0,30,[]⟩⟩]⟩:=by simpa [dY] using ho
  simp
 .intro x hx;simp[dY] at hx
def adw:Right dY:=by
 refine⟨?_,by decide,?_⟩
 .intro o ho;obtain rfl:o=⟨⟨#[103,101,110,101,118,97]⟩,false,[],[⟨20,⟨0,30,[]⟩⟩]⟩:=by simpa [dY] using ho
  exact⟨by decide,λch h=>by simp at h⟩
 .intro o ho;obtain rfl:o=⟨⟨#[103,101,110,101,118,97]⟩,false,[],[⟨20,⟨0,30,[]⟩⟩]⟩:=by simpa [dY] using ho
  refine⟨⟨⟨by decide,λch h=>by simp at h⟩,by decide,?_⟩,by decide⟩;intro x hx;simp at hx;subst hx;exact⟨by unfold aQ;decide,Tm.OK.mk 0 30 [] (by unfold aQ;decide) (by unfold aQ;decide) (by decide) (λt h=>by cases h)⟩
def adu:FewS eL:=⟨by decide,by decide,by decide,by decide⟩
def arT:eL.OK:=by
 have h0:∀n:Int,(-9223372036854775808<=n/\n<=9223372036854775807)->aQ n:=λn h=>h;unfold File.OK Bill.OK Tenor.OK;simp only[ad2];refine⟨?_,⟨by decide,?_⟩,⟨by decide,?_⟩,⟨by decide,?_⟩,⟨by decide,?_⟩⟩
 .repeat' apply And.intro
  all_goals first|(exact h0 _ (by decide))|decide
 .intro y hy;simp only[eL,cQ,List.not_mem_nil,or_false] at hy;unfold Sign.OK;rcases hy with rfl|rfl
  all_goals
   repeat' apply And.intro
   all_goals first|(exact h0 _ (by decide))|decide
 .intro y hy;simp[eL] at hy
 .intro y hy;simp[eL] at hy
 .intro y hy;simp[eL] at hy
def arU:PaperOK dY eL:=by
 refine⟨by decide,⟨by kernel_rfl,by kernel_rfl,by kernel_rfl,by unfold m7;decide,by decide,?_,?_⟩,by decide,by kernel_rfl,by kernel_rfl,by kernel_rfl,by kernel_rfl⟩
 .exact⟨⟨by decide,.inl (by kernel_rfl)⟩,by kernel_rfl⟩
 .intro h;cases h
def SD:aq T 24 [aX dY,aS eL] (.int 0):=by
 obtain⟨d,h,e,rfl,he⟩:=avj dY arV eL arT;rw[he.2 arU] at h;exact h
def adx (l:List Objection)(h:l.length<=10/\∀y,y∈l->Objection.OK y):(gB l).OK:=by
 have h0:aQ 0/\aQ 2/\aQ 10/\aQ 12:=by unfold aQ;decide
 refine⟨h0.1,h0.1,h0.2.1,h0.2.2.1,h0.2.2.2,?_,h.2⟩;have:=h.1;rw[ad2];show l.length<=_;omega
def adv (n d:Int)(b:Bool)(hn:0<=n/\n<=1000)(hd:0<=d/\d<=1000):∀y,y∈[(⟨n,d,b⟩:Objection)]->Objection.OK y:=by
 intro y hy;simp only[su] at hy;subst hy;exact⟨by unfold aQ;simp only;omega,by unfold aQ;simp only;omega⟩
def wS (l:List Objection)(h:l.length<=10/\∀y,y∈l->Objection.OK y)(day:Int):aq T 10 [aX dY,.int 0,aS eL,eQ (gB l),.int day] (.int (jx dY 0 eL (gB l) 0 day)):=
 SK dY adw 0 eL adu (gB l) (adx l h) 0 SD (by have:=h.1;show l.length<=1000;omega) day rfl
def ads (day:Int):aq T 6 [aX dY,.int 0,aS eL,eQ (gB []),.int day] (.tup [aS (kE dY 0 eL (gB []) 0 day).1,.int (kE dY 0 eL (gB []) 0 day).2]):=by
 have h1:dY.firms.length<=100000:=by decide
 have h2:(gB []).claims.length<=1000:=by decide
 have h3:(gB []).OK:=adx [] ⟨by decide,λy h=>nomatch h⟩;have h4:∀(r:Realm) (f:File) (x:Lost),Right r->r.firms.length<=100000->FewS f->x.OK->aq T 24 [aX r,aS f] (.int 0)->x.claims.length<=1000->aq T 6 [aX r,.int 0,aS f,eQ x,.int day] (.tup [aS (kE r 0 f x 0 day).1,.int (kE r 0 f x 0 day).2]):=
  λr f x a b c d e g=>adN r a b 0 f c x d 0 e g day
 exact h4 _ _ _ adw h1 adu h3 SD h2
def adt (l:List Objection)(h:l.length<=10):aq T 8 [aX dY,aS eL,eQ (gB l)] (.int (kR dY eL (gB l) 0)):=
 SJ dY eL (gB l) 0 SD (by show l.length<=1000;omega)
def loG:File:=⟨loB,[⟨0,0,0,-1,-1,0,2,0,0⟩,⟨2,0,2,-1,1,0,20,0,0⟩],[],[⟨7,2,-1,0,1,0,43,0,0⟩],[]⟩
set_option maxRecDepth 20000 in
set_option maxHeartbeats 2000000 in
def arW:aq T 4 [] (.bool true):=by
 refine zyw 1 ayk ?_;have n0:([]:List Objection).length<=10/\∀y,y∈([]:List Objection)->Objection.OK y:=⟨by decide,λy h=>by cases h⟩
 have n1:([⟨1,42,true⟩]:List Objection).length<=10/\∀y,y∈([⟨1,42,true⟩]:List Objection)->Objection.OK y:=⟨by decide,adv _ _ _ (by decide) (by decide)⟩
 have n2:([⟨1,43,true⟩]:List Objection).length<=10/\∀y,y∈([⟨1,43,true⟩]:List Objection)->Objection.OK y:=⟨by decide,adv _ _ _ (by decide) (by decide)⟩
 have s1:=wS [] n0 41;have s2:=wS [] n0 42;have s3:=wS [] n0 43;have s4:=wS [⟨1,42,true⟩] n1 41;have s5:=wS [⟨1,42,true⟩] n1 42;have s6:=wS [⟨1,42,true⟩] n1 43;have s7:=wS [⟨1,43,true⟩] n2 42;have s8:=wS [⟨1,43,true⟩] n2 43;have c1:=ads 43;have c2:=ads 42;have k1:=adt [⟨1,43,true⟩] (by decide);have k2:=adt [⟨1,11,true⟩] (by decide);rw[show jx dY 0 eL (gB []) 0 41=2 by kernel_rfl] at s1;rw[show jx dY 0 eL (gB []) 0 42=2 by kernel_rfl] at s2;rw[show jx dY 0 eL (gB []) 0 43=1 by kernel_rfl] at s3;rw[show jx dY 0 eL (gB [⟨1,42,true⟩]) 0 41=2 by kernel_rfl] at s4;rw[show jx dY 0 eL (gB [⟨1,42,true⟩]) 0 42=0 by kernel_rfl] at s5;rw[show jx dY 0 eL (gB [⟨1,42,true⟩]) 0 43=0 by kernel_rfl] at s6;rw[show jx dY 0 eL (gB [⟨1,43,true⟩]) 0 42=2 by kernel_rfl] at s7;rw[show jx dY 0 eL (gB [⟨1,43,true⟩]) 0 43=1 by kernel_rfl] at s8;rw[show kE dY 0 eL (gB []) 0 43=(loG,0) by kernel_rfl] at c1;rw[show kE dY 0 eL (gB []) 0 42=(zF,7) by kernel_rfl] at c2;rw[show kR dY eL (gB [⟨1,43,true⟩]) 0=0 by kernel_rfl] at k1;rw[show kR dY eL (gB [⟨1,11,true⟩]) 0=13 by kernel_rfl] at k2;simp[WA];refine⟨_,arS,?_⟩;simp;refine⟨_,s1,?_⟩;simp;refine⟨_,s2,?_⟩;simp;refine⟨_,s3,_,c1,_,c2,_,s4,?_⟩;simp;refine⟨_,s5,?_⟩;simp;refine⟨_,s6,?_⟩;simp;refine⟨_,s7,?_⟩;simp;refine⟨_,s8,?_⟩;simp;refine⟨_,k1,?_⟩;simp[bH,loG,acts,signs];refine⟨_,k2,?_⟩;simp
def KL (r:Realm)(f:File)(x:Lost):Bool:=E6 r f&&decide (x.claims.length<=30)
def arJ (r:Realm)(f:File)(x:Lost)(hr:r.OK):aq T 5 [aX r,aS f,eQ x] (.bool (KL r f x)):=by
 refine zyw 98 ayj ?_;simp[Wz];refine⟨_,awr r f hr,?_⟩;unfold KL E6;cases h:uq r f
 .simp
 simp;have hs:Small r:=by
  unfold uq at h;simp only[av] at h;exact Qy hr h.1.1
 refine⟨_,ag6 r hs,?_⟩;by_cases h1:eO r=0<;>simp[h1];omega
set_option maxRecDepth 10000 in
def UC (f:File)(h1:f.signs.length<=100000)(h2:f.alters.length<=100000)(h3:f.acts.length<=100000)(h4:f.facts.length<=100000):aq T 12 [aS f,aS f] (.bool true):=by
 refine zyw 179 ay9 ?_;simp[Xo];refine aN.scan f.signs.length (λ_=>True) (λk=>[.bool false,.int k]) (λ_=>[]) ?_ (λk hk hj ho=>?_) (λk hk hj ho=>absurd trivial ho) (λhj=>?_)
 .simp
 .have hw:=aV hk (by omega);simp[ahI,Nk,hk,hw]
 simp[ahI,Nk];refine aN.scan f.alters.length (λ_=>True) (λk=>[.bool false,.int k]) (λ_=>[]) ?_ (λk hk hj ho=>?_) (λk hk hj ho=>absurd trivial ho) (λhj=>?_)
 .simp
 .have hw:=aV hk (by omega);simp[ahJ,Nl,hk,hw]
 simp[ahJ,Nl];refine aN.scan f.acts.length (λ_=>True) (λk=>[.bool false,.int k]) (λ_=>[]) ?_ (λk hk hj ho=>?_) (λk hk hj ho=>absurd trivial ho) (λhj=>?_)
 .simp
 .have hw:=aV hk (by omega);simp[ahK,Nm,hk,hw]
 simp[ahK,Nm];refine aN.scan f.facts.length (λ_=>True) (λk=>[.bool false,.int k]) (λ_=>[]) ?_ (λk hk hj ho=>?_) (λk hk hj ho=>absurd trivial ho) (λhj=>?_)
 .simp
 .have hw:=aV hk (by omega);simp[ahL,Nn,hk,hw]
 simp[ahL,Nn]
def qx (r:Realm)(x:Lost)(held:List Int)(day:Int)(l:List Nat):List Act:=(l.filter λ(i:Nat)=> !hasB held (i:Int)).map (DD r x day)
def axE (r:Realm)(x:Lost)(held:List Int)(day:Int)(l:List Nat)(i:Nat):qx r x held day (l++[i])=qx r x held day l++if hasB held (i:Int)=false then[DD r x day i] else[]:=by
 unfold qx;rw[DU,sr]
 congr 1
 cases h:hasB held (i:Int)<;>simp[List.filter,h]
def aiG (r:Realm)(x:Lost)(held:List Int)(day:Int)(l:List Nat):(qx r x held day l).length<=l.length:=by
 unfold qx;rw[fp];exact tQ _ _
def axF (r:Realm)(g:File)(x:Lost)(held:List Int)(day:Int)(hd:∀s,s∈g.signs->s.day<=day):qx r x held day (gp g x.part day)=nW r g x held day g.signs.length:=by
 unfold qx nW gp;rw[List.filter_filter]
 congr 1
 apply ZN;intro i hi;have hi:=cu.1 hi;have hg:g.signs.getD i default=g.signs[i]:=by simp[hi]
 have bE:aw (i:Int) g.signs.length=true:=by simp[aw];omega
 unfold ru DC;rw[hg,Wd,bE,sf];have:=hd _ (cG hi);rw[decide_eq_true this];cases decide (g.signs[i].kind=2)<;>cases decide (g.signs[i].part=x.part)<;>cases xx g.acts (i:Int) day<;>cases hasB held (i:Int)<;>rfl
def Q9 {α:Type}(a:D)(l:List α):D:=match l with|[]=>a|_=>.none
@[simp] def aF6 {α:Type}(a:D):Q9 a ([]:List α)=a:=rfl
@[simp] def aF5 {α:Type}(a:D)(l:List α)(x:α):Q9 a (l++[x])=.none:=by cases l<;>rfl
set_option maxRecDepth 10000 in
def awu (r:Realm)(hr:Right r)(hs:Small r)(sQ:r.cities.length<=100000)(eJ:r.firms.length<=100000)(ak:Int)(f:File)(hf:FewS f)(iQ:f.OK)(x:Lost)(hx:x.OK)(hl:x.claims.length<=1000)(day:Int):
 aq T 7 [aX r,.int ak,aS f,eQ x,.int day] (.tup [aS (kE r ak f x (iv r f) day).1,.int (kE r ak f x (iv r f) day).2]):=by
 refine zyw 119 azX ?_;generalize hX:kE r ak f x (iv r f) day=X;unfold kE at hX;simp[XZ];refine⟨_,ahu r hr hs sQ ak f hf iQ x hx hl day,?_⟩;by_cases h1:100000<day\/jx r ak f x (iv r f) day≠1
 case pos=>
  rw[if_pos h1] at hX;subst hX;have cD:¬jx r ak f x (iv r f) day=1\/100000<day:=h1.symm;rw[if_pos (by simpa using cD)];simp[bH];rfl
 rw[if_neg h1] at hX;simp only[not_or,Ik] at h1;rw[if_neg (by simp[h1.2];omega)];obtain⟨hE,_,_⟩:=aiD h1.2;have kg:=adO hE;have Lb:x.by_.toNat<r.firms.length:=by omega
 refine⟨_,ahg f x.part x.day hf.acts hf.signs,_,ahi f day (by have:=hf.signs;omega) (by have:=hf.acts;omega) (by have:=hf.alters;omega) (by have:=hf.facts;omega),?_⟩;have hg:On r f x day={cm f day with acts:=(cm f day).acts++nW r (cm f day) x (kG f x.part x.day).signs day (cm f day).signs.length}:=rfl;have yI:FewS (cm f day):=hf.at_ day;rw[hg,<-axF _ _ _ _ _ (axC f day).signs] at hX;have bo:=(aaw f x.part x.day).1;have hE2:=ahh (cm f day) x.part day (by have:=yI.acts;omega) (by have:=yI.signs;omega);have jK:=KC (cm f day) x.part day;generalize cm f day=g at*;generalize (kG f x.part x.day)=ch at*;simp[bH];refine⟨_,hE2,?_⟩;have g1:=yI.signs;have g2:=yI.acts;have g3:=hf.signs;generalize hl0:gp g x.part day=l at*;refine aN.forRounds l.length (λk=>[.int k]) (λk=>[kD g.bill (signs g.signs) (alters g.alters) (Q9 (acts g.acts) (qx r x ch.signs day (l.take k))) (facts g.facts),acts (g.acts++qx r x ch.signs day (l.take k))]) ?_ (λk hk=>?_) ?_
 .simp[qx,kD]
  try rfl
 .have hw:=aV hk (by omega);have ht:l.take (k+1)=l.take k++[l[k]]:=lR hk;have dN:=axE r x ch.signs day (l.take k) l[k];rw[<-ht] at dN;have hlen:=aiG r x ch.signs day (l.take k);rw[ed] at hlen;have hh:=aww ch.signs (l[k]:Int) (by omega);rw[dN];generalize qx r x ch.signs day (l.take k)=SL at*;simp[ahP,Nu,hk,hw,uT,bH];refine⟨_,hh,?_⟩;cases a2:hasB ch.signs (l[k]:Int)
  case true=>simp
  simp[Lb,kg];exact⟨by omega,rfl,by simp[acts,DD,ib,zzx,Lb,-aGI]⟩
 .have hlen:=aiG r x ch.signs day l;rw[DY];simp[ahP,Nu,uT];generalize qx r x ch.signs day l=ss at*;(try simp[acts]);by_cases h3:100<(g.acts++ss).length
  .rw[if_pos h3] at hX;subst hX;rw[if_pos (by rw[jW] at h3;omega)];simp[bH];rfl
  .rw[if_neg h3] at hX;subst hX;rw[if_neg (by rw[jW] at h3;omega)];simp[bH,kD,aS,acts,wd,-aGR]
set_option maxRecDepth 10000 in
def ajX (r:Realm)(hr:r.OK)(ak:Int)(f:File)(iQ:f.OK)(x:Lost)(hx:x.OK)(day:Int)(hd:aQ day):
 aq T 3 [aX r,.int ak,aS f,eQ x,.int day] (.bool true):=by
 refine zyw 0 ayh ?_;simp[Wy];refine⟨_,arW,_,arJ r f x hr,?_⟩;cases hg:KL r f x
 .simp
 have Rh:E6 r f=true/\x.claims.length<=30:=by
  unfold KL at hg;simpa using hg
 have zzt:=aov hr Rh.1;have hl:x.claims.length<=1000:=by omega
 have wI:=zzt.rightD.small;have hP:=avk r wI f iQ;have c1:=adN r zzt.right (by have:=wI.firms;omega) ak f zzt.few x hx _ hP hl day;have c2:=awu r zzt.right wI (by have:=wI.cities;omega) (by have:=wI.firms;omega) ak f zzt.few iQ x hx hl day;have k1:=SJ r f x _ hP hl;have k2:=aht r wI f iQ x hl;have s1:=SK r zzt.right ak f zzt.few x hx _ hP hl day rfl;have s2:=ahu r zzt.right wI (by have:=wI.cities;omega) ak f zzt.few iQ x hx hl day;have jj:aq T 12 [aS (kE r ak f x (iv r f) day).1,aS (kE r ak f x (iv r f) day).1] (.bool true):=by
  have iS:=zzt.few.at_ day;have hlen:=Wc r (cm f day) x (kG f x.part x.day).signs day (cm f day).signs.length;unfold kE;split
  .exact UC zF (by decide) (by decide) (by decide) (by decide)
  split
  .exact UC zF (by decide) (by decide) (by decide) (by decide)
  .refine UC _ (by have:=iS.signs;show(cm f day).signs.length<=_;omega) (by have:=iS.alters;show(cm f day).alters.length<=_;omega) ?_ (by have:=iS.facts;show(cm f day).facts.length<=_;omega);show((cm f day).acts++nW r (cm f day) x (kG f x.part x.day).signs day (cm f day).signs.length).length<=_;rw[jW];have:=iS.signs;have:=iS.acts;omega
 generalize kE r ak f x (iv r f) day=C at*;simp[bH];refine⟨_,c1,_,c2,_,k1,_,k2,?_⟩;simp;refine⟨_,s1,_,s2,?_⟩;simp;refine⟨_,jj,?_⟩;simp
end Rm
